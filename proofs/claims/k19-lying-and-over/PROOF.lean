import PyProof.Rows.All
import Wide.All
import OpenK.AllK
import Wide.FinOn
import HandS.ForMost
import HandS.Lambda
import HandS.ForExc
import HandS.IsInst
import KE.KDictKeyed
import HandS.CallSlots
import HandS.ExcInit
import HandS.Small
import HandS.TupAny
import HandS.TupMul
import HandS.Wide
import HandS.Deep
import HandS.Style
import HandS.Conv
import HandS.ExcIs
import HandS.Walk
import KE.KExcIs
import HandS.TupLen
import HandS.ExcValue
import HandS.ExcField
import HandS.TryMany
import HandS.EndTab
import HandS.Zip
import KE.KDictOf
import KE.KEqDict
import PyProof.EnumMake
import PyProof.Draws
import KE.KDictDisplayH
import PyProof.DictDisplay
import HandS.SortOrd
import HandS.NamedTupSort
import KE.KDictSum
import KE.KDictCopyH
import KE.KDictZip
import HandS.Rev
import HandS.Nested
import KE.SortData
import KE.KEqNest
import PySem.Challenge.RW_carrytower_k19_lying_and_over
set_option Elab.async false
set_option linter.all false
set_option maxRecDepth 100000
namespace Mir
open PySem PySem.Spec PyProof.Rows L2
/-- data -/
inductive D where
  | non | bl (b : Bool) | int (i : Int) | str (s : Str)
  | tup (xs : List D) | lst (xs : List D)
  | scr (ns : List Int)
  | dic (ks : List D) (vs : List D)
  | obj (c : Nat) (vs : List D)
  | exc (c : Nat) (vs : List D)
  | cls (c : Nat) | ty (n : String)
  deriving Inhabited
/-- the classes by numbers: their names, their attributes in order -/
def cname : Nat → Str
  | 0 => "Rounds" | 1 => "Tower" | 2 => "Table" | 3 => "Map" | 4 => "Desk" | 5 => "Group"
  | 10 => "CarryError" | 11 => "NoRounds" | 12 => "NoElement" | 13 => "NoLower" | 14 => "NoUpper" | 15 => "NoHead" | 16 => "NotLike" | 17 => "NoCount" | 18 => "NoPair"
  | 19 => "NoKind" | 20 => "NoLine" | 21 => "NothingDone" | 22 => "NoText" | 23 => "NoCarry" | 24 => "NoTower" | 25 => "Uneven" | 26 => "NoRelabeling" | 27 => "TooMany" | 28 => "NoMap" | 29 => "NoName"
  | _ => ""
def cflds : Nat → List Str
  | 0 => ["rounds"] | 1 => ["table", "ground"] | 2 => ["lower", "upper", "kept"] | 3 => ["source", "goal", "images"] | 4 => ["kept", "past"]
  | 22 => ["at"] | 23 => ["y", "x"] | 24 => ["three"] | 25 => ["two"] | 26 => ["x"] | 27 => ["many"] | 28 => ["head"] | 29 => ["name"]
  | _ => []
inductive Res (α : Type) where
  | ok (a : α) | er (e : D) | bad
@[inline] def Res.bind {α β : Type} (r : Res α) (f : α → Res β) : Res β := match r with
  | .ok a => f a
  | .er e => .er e
  | .bad => .bad
instance : Monad Res where
  pure := .ok
  bind := Res.bind
@[simp] theorem ok_bind {α β : Type} (a : α) (f : α → Res β) : (Res.ok a >>= f) = f a := rfl
@[simp] theorem er_bind {α β : Type} (e : D) (f : α → Res β) : ((Res.er e : Res α) >>= f) = .er e := rfl
@[simp] theorem bad_bind {α β : Type} (f : α → Res β) : ((Res.bad : Res α) >>= f) = .bad := rfl
@[simp] theorem pure_ok {α : Type} (a : α) : (pure a : Res α) = .ok a := rfl
/-- the ground: what the module has written -/
structure GC where
  P : Program
  w : World
  K : PySem.W.Frag
  mg : Str → Option Value
/-- where the class stands -/
def GC.ca (G : GC) (c : Nat) : Addr := match G.mg (cname c) with
  | some (.ref C) => C
  | _ => 0
abbrev gOf (X : Cx) : GC := ⟨X.prog, X.w, X.K, X.mg⟩
/-- a datum as a key -/
def keyOf : D → Option NestedKey
  | .non => some .none
  | .bl b => some (.num (if b = true then 1 else 0))
  | .int i => some (.num i)
  | .str s => some (.text s)
  | .tup xs => (keysOf xs).map .tup
  | _ => none
where keysOf : List D → Option (List NestedKey)
  | [] => some []
  | x :: xs => match keyOf x, keysOf xs with
    | some k, some ks => some (k :: ks)
    | _, _ => none
/-- at a stands a dict with the entries' keys at addresses and values -/
structure DicO (G : GC) (o : Obj) (xs : List (NestedKey × Addr × Value)) : Prop where
  ex : o.ExactDict
  dat : ∃ es ep, o.data = .dict es ep ∧ es.toList = xs.map (entryOfKey (nestedKind G.P G.w))
  nd : (xs.map (·.1)).Nodup
  dp : ∀ x ∈ xs, x.1.depth ≤ 8
  sz : xs.length ≤ sizeLine
def isObj' (a : Addr) (o : Obj) : Heap → Prop := fun h => h.get? a = some o
def isExc (a : Addr) (C : Addr) (d : Option Addr) : Heap → Prop := fun h => ∃ oe vs, h.get? a = some oe ∧ oe.cls = .ref C ∧ oe.dict = d ∧ oe.data = .fields vs
mutual
/-- v bears d in F -/
inductive Rep (G : GC) (F : Hp) : V → D → Prop
  | non : Rep G F .non .non
  | bl (b : Bool) : Rep G F (.bl b) (.bl b)
  | int (i : Int) : Rep G F (.int i) (.int i)
  | str (s : Str) : Rep G F (.str s) (.str s)
  | tup {a : Addr} {vs : List V} {ds : List D} : SqT G.K F a vs → RepAll G F vs ds → Rep G F (.ref a) (.tup ds)
  | lst {a : Addr} {vs : List V} {ds : List D} : F a = some (.lst vs) → RepAll G F vs ds → Rep G F (.ref a) (.lst ds)
  | scr {a : Addr} {ns : List Int} : SqL G.K F a (ns.map V.int) → Rep G F (.ref a) (.scr ns)
  | dic {a : Addr} {o : Obj} {xs : List (NestedKey × Addr × Value)} {ws : List V} {ks vs : List D} : F a = some (.ext (isObj' a o)) → (a == sysModules) = false → DicO G o xs → Vals ws (xs.map (·.2.2)) →
      RepAll G F (xs.map fun x => V.ref x.2.1) ks → ks.map keyOf = xs.map (fun x => some x.1) → RepAll G F ws vs → Rep G F (.ref a) (.dic ks vs)
  | obj {a dx : Addr} {c : Nat} {ws : List V} {vs : List D} : F a = some (.ins (G.ca c) dx ((cflds c).zip ws)) → ws.length ≤ (cflds c).length → RepAll G F ws vs → Rep G F (.ref a) (.obj c vs)
  | exc {a : Addr} {c : Nat} : F a = some (.ext (isExc a (G.ca c) none)) → cflds c = [] → Rep G F (.ref a) (.exc c [])
  | excF {a dx : Addr} {c : Nat} {ws : List V} {vs : List D} : F a = some (.ext (isExc a (G.ca c) (some dx))) → F dx = some (.xd ((cflds c).zip ws)) → ws.length = (cflds c).length → RepAll G F ws vs → Rep G F (.ref a) (.exc c vs)
  | cls {C : Addr} {c : Nat} : G.mg (cname c) = some (.ref C) → Rep G F (.ref C) (.cls c)
  | ty (n : String) : Rep G F (.ty n) (.ty n)
inductive RepAll (G : GC) (F : Hp) : List V → List D → Prop
  | nil : RepAll G F [] []
  | cons {v : V} {d : D} {vs : List V} {ds : List D} : Rep G F v d → RepAll G F vs ds → RepAll G F (v :: vs) (d :: ds)
end
theorem Same.sqT {K : PySem.W.Frag} {H H' : Hp} {a : Addr} {xs : List V} (e : Same H H') (h : SqT K H a xs) : SqT K H' a xs := by
  rcases h with (h | ⟨o, h⟩) | h
  · exact .inl (.inl (e _ _ h))
  · exact .inl (.inr ⟨o, e _ _ h⟩)
  · exact .inr h
mutual
theorem Rep.mono {G : GC} {F F' : Hp} (s : Same F F') : ∀ {v : V} {d : D}, Rep G F v d → Rep G F' v d
  | _, _, .non => .non
  | _, _, .bl b => .bl b
  | _, _, .int i => .int i
  | _, _, .str x => .str x
  | _, _, .tup h r => .tup (Same.sqT s h) (RepAll.mono s r)
  | _, _, .lst h r => .lst (s _ _ h) (RepAll.mono s r)
  | _, _, .scr h => .scr (s.seq h)
  | _, _, .dic h1 h2 h3 h4 h5 h6 h7 => .dic (s _ _ h1) h2 h3 h4 (RepAll.mono s h5) h6 (RepAll.mono s h7)
  | _, _, .obj h z r => .obj (s _ _ h) z (RepAll.mono s r)
  | _, _, .exc h z => .exc (s _ _ h) z
  | _, _, .excF h1 h2 z r => .excF (s _ _ h1) (s _ _ h2) z (RepAll.mono s r)
  | _, _, .cls h => .cls h
  | _, _, .ty n => .ty n
theorem RepAll.mono {G : GC} {F F' : Hp} (s : Same F F') : ∀ {vs : List V} {ds : List D}, RepAll G F vs ds → RepAll G F' vs ds
  | _, _, .nil => .nil
  | _, _, .cons r t => .cons (Rep.mono s r) (RepAll.mono s t)
end
section
variable {G : GC} {F : Hp}
theorem RepAll.length : ∀ {vs : List V} {ds : List D}, RepAll G F vs ds → vs.length = ds.length
  | _, _, .nil => rfl
  | _, _, .cons _ t => congrArg (· + 1) (RepAll.length t)
theorem RepAll.get : ∀ {vs : List V} {ds : List D} {i : Nat} {d : D}, RepAll G F vs ds → ds[i]? = some d → ∃ v, vs[i]? = some v ∧ Rep G F v d
  | _, _, _, _, .nil, e => by simp at e
  | _, _, 0, _, .cons r _, e => by simp at e; subst e; exact ⟨_, rfl, r⟩
  | _, _, i + 1, d, .cons _ t, e => by
    obtain ⟨v, h1, h2⟩ := RepAll.get (i := i) (d := d) t (by simpa using e)
    exact ⟨v, by simpa using h1, h2⟩
theorem RepAll.getV : ∀ {vs : List V} {ds : List D} {i : Nat} {v : V}, RepAll G F vs ds → vs[i]? = some v → ∃ d, ds[i]? = some d ∧ Rep G F v d
  | _, _, _, _, .nil, e => by simp at e
  | _, _, 0, _, .cons r _, e => by simp at e; subst e; exact ⟨_, rfl, r⟩
  | _, _, i + 1, v, .cons _ t, e => by
    obtain ⟨d, h1, h2⟩ := RepAll.getV (i := i) (v := v) t (by simpa using e)
    exact ⟨d, by simpa using h1, h2⟩
theorem RepAll.append : ∀ {vs ws : List V} {ds es : List D}, RepAll G F vs ds → RepAll G F ws es → RepAll G F (vs ++ ws) (ds ++ es)
  | _, _, _, _, .nil, s => s
  | _, _, _, _, .cons r t, s => .cons r (RepAll.append t s)
theorem RepAll.set {v : V} {d : D} (r : Rep G F v d) : ∀ {vs : List V} {ds : List D} (i : Nat), RepAll G F vs ds → RepAll G F (vs.set i v) (ds.set i d)
  | _, _, _, .nil => .nil
  | _, _, 0, .cons _ t => .cons r t
  | _, _, i + 1, .cons q t => .cons q (RepAll.set r i t)
theorem RepAll.take : ∀ {vs : List V} {ds : List D} (n : Nat), RepAll G F vs ds → RepAll G F (vs.take n) (ds.take n)
  | _, _, 0, _ => .nil
  | _, _, _ + 1, .nil => .nil
  | _, _, n + 1, .cons r t => .cons r (RepAll.take n t)
theorem RepAll.drop : ∀ {vs : List V} {ds : List D} (n : Nat), RepAll G F vs ds → RepAll G F (vs.drop n) (ds.drop n)
  | _, _, 0, r => r
  | _, _, _ + 1, .nil => .nil
  | _, _, n + 1, .cons _ t => RepAll.drop n t
theorem RepAll.reverse : ∀ {vs : List V} {ds : List D}, RepAll G F vs ds → RepAll G F vs.reverse ds.reverse
  | _, _, .nil => .nil
  | _, _, .cons r t => by
    rw [List.reverse_cons, List.reverse_cons]
    exact RepAll.append (RepAll.reverse t) (.cons r .nil)
end
inductive Shape where
  | sh
  | flat
  | parts (l : List Shape)
  | opts (l : List Shape)
/-- the shape of the i-th part -/
def Shape.kid : Shape → Nat → Shape
  | .parts l, i => l.getD i .sh
  | .opts l, i => l.getD i .sh
  | _, _ => .sh
def Shape.pts : Shape → Bool
  | .parts _ => true
  | .opts _ => true
  | _ => false
def Shape.own : Shape → Bool
  | .sh => false
  | _ => true
mutual
/-- nothing that can be changed, at no depth -/
def soft : D → Bool
  | .non => true
  | .bl _ => true
  | .int _ => true
  | .str _ => true
  | .tup ds => softs ds
  | _ => false
def softs : List D → Bool
  | [] => true
  | d :: ds => soft d && softs ds
end
mutual
/-- v bears d, its own parts stand in H at A, the others in F -/
inductive Own (G : GC) (F H : Hp) : Shape → V → D → List Addr → Prop
  | sh {v : V} {d : D} : Rep G F v d → Own G F H .sh v d []
  | lst {s : Shape} {a : Addr} {vs : List V} {ds : List D} {A : List Addr} : s.own = true → H a = some (.lst vs) → F a = none → OwnAll G F H s.kid 0 vs ds A → a ∉ A → Own G F H s (.ref a) (.lst ds) (a :: A)
  | tup {s : Shape} {a : Addr} {vs : List V} {ds : List D} {A : List Addr} : s.pts = true → H a = some (.tup vs) → F a = none → OwnAll G F H s.kid 0 vs ds A → a ∉ A → Own G F H s (.ref a) (.tup ds) (a :: A)
  | dic {s : Shape} {a : Addr} {o : Obj} {xs : List (NestedKey × Addr × Value)} {ws : List V} {ks vs : List D} {A : List Addr} : s.own = true → H a = some (.ext (isObj' a o)) → F a = none → (a == sysModules) = false → DicO G o xs → Vals ws (xs.map (·.2.2)) →
      RepAll G F (xs.map fun x => V.ref x.2.1) ks → ks.map keyOf = xs.map (fun x => some x.1) → OwnAll G F H s.kid 0 ws vs A → a ∉ A → Own G F H s (.ref a) (.dic ks vs) (a :: A)
  | obj {s : Shape} {a dx : Addr} {c : Nat} {ws : List V} {vs : List D} {A : List Addr} : s.own = true → H a = some (.ins (G.ca c) dx ((cflds c).zip ws)) → F a = none → ws.length ≤ (cflds c).length → OwnAll G F H s.kid 0 ws vs A → a ∉ A →
      Own G F H s (.ref a) (.obj c vs) (a :: A)
  | opt {l : List Shape} {v : V} {ds : List D} : Rep G F v (.tup ds) → (∀ n d, ds[n]? = some d → ((Shape.opts l).kid n).own = true → soft d = true) → Own G F H (.opts l) v (.tup ds) []
inductive OwnAll (G : GC) (F H : Hp) : (Nat → Shape) → Nat → List V → List D → List Addr → Prop
  | nil {f : Nat → Shape} {n : Nat} : OwnAll G F H f n [] [] []
  | cons {f : Nat → Shape} {n : Nat} {v : V} {d : D} {vs : List V} {ds : List D} {A B : List Addr} : Own G F H (f n) v d A → OwnAll G F H f (n + 1) vs ds B → (∀ a ∈ A, a ∉ B) → OwnAll G F H f n (v :: vs) (d :: ds) (A ++ B)
end
/-- no code table -/
def Nt (o : HO) : Prop := ∀ ps, o ≠ .tbl ps
/-- the name that the code objects of a table bear -/
class Tn where
  q : Addr → Str
  l : List Addr
variable [Tn]
/-- a code object of the name q -/
def isCode (oc : Obj) (q : Str) : Prop := ∃ (vs : Array Value) (t : Tok), oc.data = .fields vs ∧ vs[1]? = some (.str q t)
abbrev frzO (o : Obj) : HO := .frz o (.ext fun _ => True)
/-- the table of code objects at P: each one that it tells is shared and bears its name -/
def TabF (F H : Hp) (P : Addr) : Prop :=
  F P = none ∧ ∃ ps : Array Value, H P = some (.tbl ps) ∧ TriplesOk ps.toList ∧ ∀ (pos : Pos) (cv : Value), codeAmong pos ps.toList = some cv → ∃ c oc, cv = .ref c ∧ F c = some (frzO oc) ∧ isCode oc (Tn.q P)
/-- all tables -/
def Tt (F H : Hp) : Prop := ∀ P ∈ Tn.l, TabF F H P
/-- no address is free any more that was not -/
def Fre (H H' : Hp) : Prop := ∀ a, H' a = none → H a = none
theorem _root_.L2.Same.fre {H H' : Hp} (s : Same H H') : Fre H H' := fun _ e => s.free e
theorem Fre.trans {H H1 H2 : Hp} (a : Fre H H1) (b : Fre H1 H2) : Fre H H2 := fun c e => a c (b c e)
/-- all but the tables of code objects stays; they grow -/
structure Stays (F H F' H' : Hp) : Prop where
  at' : ∀ a o, H a = some o → Nt o → H' a = some o
  tb : ∀ P ps, H P = some (.tbl ps) → ∃ ps', H' P = some (.tbl ps')
  tf : ∀ P, TabF F H P → TabF F' H' P
theorem Stays.tt {F H F' H' : Hp} (s : Stays F H F' H') (t : Tt F H) : Tt F' H' := fun P h => s.tf P (t P h)
section
variable {F H F' H' F1 H1 F2 H2 : Hp}
theorem Stays.at (s : Stays F H F' H') (a : Addr) (o : HO) (h : H a = some o) (n : Nt o := by intro _ z; cases z) : H' a = some o := s.at' a o h n
theorem Stays.fre (s : Stays F H F' H') : Fre H H' := fun a e => by
  cases q : H a with
  | none => rfl
  | some o =>
    by_cases h : ∃ ps, o = .tbl ps
    · obtain ⟨ps, rfl⟩ := h
      obtain ⟨ps', z⟩ := s.tb a ps q
      rw [e] at z; cases z
    · have := s.at' a o q fun ps z => h ⟨ps, z⟩
      rw [e] at this; cases this
theorem Stays.free (s : Stays F H F' H') {a : Addr} (e : H' a = none) : H a = none := s.fre a e
theorem Stays.of (h : Same H H') (f : Same F F') (n : ∀ a o, F' a = some o → F a = some o ∨ H a = none) : Stays F H F' H' where
  at' := fun a o e _ => h a o e
  tb := fun P ps e => ⟨ps, h P _ e⟩
  tf := fun P ⟨h0, ps, h1, h2, h3⟩ => by
    refine ⟨?_, ps, h P _ h1, h2, fun pos cv e => ?_⟩
    · cases e : F' P with
      | none => rfl
      | some o =>
        rcases n P o e with z | z
        · rw [h0] at z
          cases z
        · rw [h1] at z
          cases z
    · obtain ⟨c, oc, a, b, z⟩ := h3 pos cv e
      exact ⟨c, oc, a, f c _ b, z⟩
theorem Stays.refl : Stays F H F H := ⟨fun _ _ e _ => e, fun _ ps e => ⟨ps, e⟩, fun _ h => h⟩
theorem Stays.trans (a : Stays F H F1 H1) (b : Stays F1 H1 F2 H2) : Stays F H F2 H2 :=
  ⟨fun x o e n => b.at' x o (a.at' x o e n) n, fun P ps e => let ⟨ps1, e1⟩ := a.tb P ps e; b.tb P ps1 e1, fun P h => b.tf P (a.tf P h)⟩
/-- a new thing, or one's own, is written -/
theorem Stays.upd {x : Addr} {o : HO} (s : Stays F H F' H') (hx : H x = none) : Stays F H F' (upd H' x o) where
  at' := fun b u e n => by rw [upd_ne (ne_of_none e hx)]; exact s.at' b u e n
  tb := fun P ps e => by rw [upd_ne (ne_of_none e hx)]; exact s.tb P ps e
  tf := fun P h => by
    obtain ⟨_, _, e, _⟩ := id h
    obtain ⟨h0, ps, h1, h2⟩ := s.tf P h
    exact ⟨h0, ps, by rw [upd_ne (ne_of_none e hx)]; exact h1, h2⟩
end
/-- without the tables -/
def nT (H : Hp) : Hp := fun a => match H a with
  | some (.tbl _) => none
  | o => o
theorem nT_at {H : Hp} {a : Addr} {o : HO} (h : H a = some o) (n : Nt o := by intro _ z; cases z) : nT H a = some o := by
  unfold nT
  rw [h]
  cases o <;> first | rfl | exact absurd rfl (n _)
theorem nT_of {H : Hp} {a : Addr} {o : HO} (h : nT H a = some o) : H a = some o ∧ Nt o := by
  unfold nT at h
  split at h
  · cases h
  · rename_i q
    exact ⟨h, fun ps z => by subst z; exact q ps h⟩
theorem Stays.nT {F H F' H' : Hp} (s : Stays F H F' H') : Same (Mir.nT H) H' := fun a o e => s.at' a o (nT_of e).1 (nT_of e).2
theorem rd_nT {H : Hp} {a : Addr} {o : HO} (n : Nt o) (h : Rd H a o) : Rd (nT H) a o := by
  rcases h with h | ⟨u, h⟩
  · exact .inl (nT_at h n)
  · exact .inr ⟨u, nT_at h⟩
theorem sqL_nT {K : PySem.W.Frag} {H : Hp} {a : Addr} {xs : List V} (h : SqL K H a xs) : SqL K (nT H) a xs := h.imp (rd_nT (by intro _ z; cases z)) id
/-- what grows: the heap, the shared part; nothing old becomes shared -/
structure Grow (F H F' H' : Hp) : Prop where
  h : Stays F H F' H'
  f : Same F F'
  sub : Same F' H'
  new : ∀ a o, F' a = some o → F a = some o ∨ H a = none
theorem Grow.of {F H F' H' : Hp} (h : Same H H') (f : Same F F') (sub : Same F' H') (new : ∀ a o, F' a = some o → F a = some o ∨ H a = none) : Grow F H F' H' := ⟨.of h f new, f, sub, new⟩
theorem Grow.refl {F H : Hp} (s : Same F H) : Grow F H F H := ⟨Stays.refl, Same.refl _, s, fun _ _ e => .inl e⟩
theorem Grow.trans {F H F1 H1 F2 H2 : Hp} (a : Grow F H F1 H1) (b : Grow F1 H1 F2 H2) : Grow F H F2 H2 :=
  ⟨a.h.trans b.h, a.f.trans b.f, b.sub, fun x o e => (b.new x o e).elim (fun q => a.new x o q) fun q => .inr (a.h.free q)⟩
/-- what stays of the own parts -/
structure Keep (A : List Addr) (F H F' H' : Hp) : Prop where
  h : ∀ a ∈ A, ∀ o, H a = some o → H' a = some o
  f : Same F F'
  n : ∀ a ∈ A, F a = none → F' a = none
theorem Grow.keep {F H F' H' : Hp} (g : Grow F H F' H') {A : List Addr} (hA : ∀ a ∈ A, ∃ o, H a = some o) (hn : ∀ a ∈ A, ∀ ps, H a ≠ some (.tbl ps)) : Keep A F H F' H' :=
  ⟨fun a ha o e => g.h.at' a o e fun ps z => hn a ha ps (z ▸ e), g.f, fun a ha e => by
    cases q : F' a with
    | none => rfl
    | some o =>
      rcases g.new a o q with z | z
      · rw [e] at z; cases z
      · obtain ⟨o', e'⟩ := hA a ha
        rw [z] at e'; cases e'⟩
section
variable {G : GC} {F H F' H' : Hp}
mutual
theorem Own.keep : ∀ {s : Shape} {v : V} {d : D} {A : List Addr}, Own G F H s v d A → Keep A F H F' H' → Own G F' H' s v d A
  | _, _, _, _, .sh r, k => .sh (r.mono k.f)
  | _, _, _, _, .lst h0 h1 h2 h3 h4, k => .lst h0 (k.h _ List.mem_cons_self _ h1) (k.n _ List.mem_cons_self h2) (OwnAll.keep h3 ⟨fun a ha => k.h a (List.mem_cons_of_mem _ ha), k.f, fun a ha => k.n a (List.mem_cons_of_mem _ ha)⟩) h4
  | _, _, _, _, .tup h0 h1 h2 h3 h4, k => .tup h0 (k.h _ List.mem_cons_self _ h1) (k.n _ List.mem_cons_self h2) (OwnAll.keep h3 ⟨fun a ha => k.h a (List.mem_cons_of_mem _ ha), k.f, fun a ha => k.n a (List.mem_cons_of_mem _ ha)⟩) h4
  | _, _, _, _, .dic h0 h1 h2 z1 z2 z3 z4 z5 h3 h4, k => .dic h0 (k.h _ List.mem_cons_self _ h1) (k.n _ List.mem_cons_self h2) z1 z2 z3 (z4.mono k.f) z5 (OwnAll.keep h3 ⟨fun a ha => k.h a (List.mem_cons_of_mem _ ha), k.f, fun a ha => k.n a (List.mem_cons_of_mem _ ha)⟩) h4
  | _, _, _, _, .obj h0 h1 h2 z h3 h4, k => .obj h0 (k.h _ List.mem_cons_self _ h1) (k.n _ List.mem_cons_self h2) z (OwnAll.keep h3 ⟨fun a ha => k.h a (List.mem_cons_of_mem _ ha), k.f, fun a ha => k.n a (List.mem_cons_of_mem _ ha)⟩) h4
  | _, _, _, _, .opt r h, k => .opt (r.mono k.f) h
theorem OwnAll.keep : ∀ {f : Nat → Shape} {n : Nat} {vs : List V} {ds : List D} {A : List Addr}, OwnAll G F H f n vs ds A → Keep A F H F' H' → OwnAll G F' H' f n vs ds A
  | _, _, _, _, _, .nil, _ => .nil
  | _, _, _, _, _, .cons r t x, k => .cons (Own.keep r ⟨fun a ha => k.h a (List.mem_append_left _ ha), k.f, fun a ha => k.n a (List.mem_append_left _ ha)⟩)
      (OwnAll.keep t ⟨fun a ha => k.h a (List.mem_append_right _ ha), k.f, fun a ha => k.n a (List.mem_append_right _ ha)⟩) x
end
mutual
theorem Own.there : ∀ {s : Shape} {v : V} {d : D} {A : List Addr}, Own G F H s v d A → ∀ a ∈ A, F a = none ∧ ∃ o, H a = some o
  | _, _, _, _, .sh _, _, h => nomatch h
  | _, _, _, _, .lst _ h1 h2 h3 _, a, h => (List.mem_cons.mp h).elim (fun e => by subst e; exact ⟨h2, _, h1⟩) (OwnAll.there h3 a)
  | _, _, _, _, .tup _ h1 h2 h3 _, a, h => (List.mem_cons.mp h).elim (fun e => by subst e; exact ⟨h2, _, h1⟩) (OwnAll.there h3 a)
  | _, _, _, _, .dic _ h1 h2 _ _ _ _ _ h3 _, a, h => (List.mem_cons.mp h).elim (fun e => by subst e; exact ⟨h2, _, h1⟩) (OwnAll.there h3 a)
  | _, _, _, _, .obj _ h1 h2 _ h3 _, a, h => (List.mem_cons.mp h).elim (fun e => by subst e; exact ⟨h2, _, h1⟩) (OwnAll.there h3 a)
theorem OwnAll.there : ∀ {f : Nat → Shape} {n : Nat} {vs : List V} {ds : List D} {A : List Addr}, OwnAll G F H f n vs ds A → ∀ a ∈ A, F a = none ∧ ∃ o, H a = some o
  | _, _, _, _, _, .nil, _, h => nomatch h
  | _, _, _, _, _, .cons r t _, a, h => (List.mem_append.mp h).elim (Own.there r a) (OwnAll.there t a)
end
mutual
theorem Own.nt : ∀ {s : Shape} {v : V} {d : D} {A : List Addr}, Own G F H s v d A → ∀ a ∈ A, ∀ ps, H a ≠ some (.tbl ps)
  | _, _, _, _, .sh _, _, h => nomatch h
  | _, _, _, _, .lst _ h1 h2 h3 _, a, h => (List.mem_cons.mp h).elim (fun e ps z => by subst e; rw [h1] at z; cases z) (OwnAll.nt h3 a)
  | _, _, _, _, .tup _ h1 h2 h3 _, a, h => (List.mem_cons.mp h).elim (fun e ps z => by subst e; rw [h1] at z; cases z) (OwnAll.nt h3 a)
  | _, _, _, _, .dic _ h1 h2 _ _ _ _ _ h3 _, a, h => (List.mem_cons.mp h).elim (fun e ps z => by subst e; rw [h1] at z; cases z) (OwnAll.nt h3 a)
  | _, _, _, _, .obj _ h1 h2 _ h3 _, a, h => (List.mem_cons.mp h).elim (fun e ps z => by subst e; rw [h1] at z; cases z) (OwnAll.nt h3 a)
theorem OwnAll.nt : ∀ {f : Nat → Shape} {n : Nat} {vs : List V} {ds : List D} {A : List Addr}, OwnAll G F H f n vs ds A → ∀ a ∈ A, ∀ ps, H a ≠ some (.tbl ps)
  | _, _, _, _, _, .nil, _, h => nomatch h
  | _, _, _, _, _, .cons r t _, a, h => (List.mem_append.mp h).elim (Own.nt r a) (OwnAll.nt t a)
end
theorem Own.grow {s : Shape} {v : V} {d : D} {A : List Addr} (o : Own G F H s v d A) (g : Grow F H F' H') : Own G F' H' s v d A := o.keep (g.keep (fun a ha => (o.there a ha).2) o.nt)
/-- the own parts become shared -/
def share (F H : Hp) (A : List Addr) : Hp := fun b => if b ∈ A then H b else F b
theorem share_sub (s : Same F H) (A : List Addr) : Same (share F H A) H := fun b o e => by
  unfold share at e
  split at e
  · exact e
  · exact s b o e
theorem share_same (s : Same F H) (A : List Addr) : Same F (share F H A) := fun b o e => by
  unfold share
  split
  · exact s b o e
  · exact e
/-- .. and nothing else changes -/
theorem Stays.share {A : List Addr} (st : Stays F H F' H') (sub : Same F' H') (hn : ∀ a ∈ A, ∀ ps, H' a ≠ some (.tbl ps)) : Stays F H (share F' H' A) H' := ⟨st.at', st.tb, fun P h => by
  obtain ⟨h0, ps, h1, h2, h3⟩ := st.tf P h
  have hP : P ∉ A := fun z => hn P z ps h1
  refine ⟨by unfold Mir.share; rw [if_neg hP]; exact h0, ps, h1, h2, fun pos cv e => ?_⟩
  obtain ⟨c, oc, a, b, z⟩ := h3 pos cv e
  exact ⟨c, oc, a, share_same sub A c _ b, z⟩⟩
theorem share_at {A : List Addr} {a : Addr} (h : a ∈ A) : share F H A a = H a := if_pos h
theorem share_ne {A : List Addr} {a : Addr} (h : a ∉ A) : share F H A a = F a := if_neg h
mutual
theorem Own.rep (s : Same F H) : ∀ {sp : Shape} {v : V} {d : D} {A : List Addr}, Own G F H sp v d A → ∀ B : List Addr, (∀ a ∈ A, a ∈ B) → Rep G (share F H B) v d
  | _, _, _, _, .sh r, B, _ => r.mono (share_same s B)
  | _, _, _, _, .lst _ h1 _ h3 _, B, hB => .lst ((share_at (hB _ List.mem_cons_self)).trans h1) (OwnAll.rep s h3 B fun a ha => hB a (List.mem_cons_of_mem _ ha))
  | _, _, _, _, .tup _ h1 _ h3 _, B, hB => .tup (.of ((share_at (hB _ List.mem_cons_self)).trans h1)) (OwnAll.rep s h3 B fun a ha => hB a (List.mem_cons_of_mem _ ha))
  | _, _, _, _, .dic _ h1 _ z1 z2 z3 z4 z5 h3 _, B, hB => .dic ((share_at (hB _ List.mem_cons_self)).trans h1) z1 z2 z3 (z4.mono (share_same s B)) z5 (OwnAll.rep s h3 B fun a ha => hB a (List.mem_cons_of_mem _ ha))
  | _, _, _, _, .obj _ h1 _ z h3 _, B, hB => .obj ((share_at (hB _ List.mem_cons_self)).trans h1) z (OwnAll.rep s h3 B fun a ha => hB a (List.mem_cons_of_mem _ ha))
  | _, _, _, _, .opt r _, B, _ => r.mono (share_same s B)
theorem OwnAll.rep (s : Same F H) : ∀ {f : Nat → Shape} {n : Nat} {vs : List V} {ds : List D} {A : List Addr}, OwnAll G F H f n vs ds A → ∀ B : List Addr, (∀ a ∈ A, a ∈ B) → RepAll G (share F H B) vs ds
  | _, _, _, _, _, .nil, _, _ => .nil
  | _, _, _, _, _, .cons r t _, B, hB => .cons (Own.rep s r B fun a ha => hB a (List.mem_append_left _ ha)) (OwnAll.rep s t B fun a ha => hB a (List.mem_append_right _ ha))
end
theorem OwnAll.of_rep : ∀ {vs : List V} {ds : List D} {n : Nat}, RepAll G F vs ds → OwnAll G F H (fun _ => .sh) n vs ds []
  | _, _, _, .nil => .nil
  | _, _, _, .cons r t => OwnAll.cons (A := []) (B := []) (.sh r) (OwnAll.of_rep t) (fun _ z => nomatch z)
theorem OwnAll.to_rep : ∀ {vs : List V} {ds : List D} {n : Nat} {A : List Addr}, OwnAll G F H (fun _ => .sh) n vs ds A → A = [] ∧ RepAll G F vs ds
  | _, _, _, _, .nil => ⟨rfl, .nil⟩
  | _, _, _, _, .cons r t _ => by
    cases r with
    | sh r =>
      obtain ⟨e, t'⟩ := OwnAll.to_rep t
      subst e
      exact ⟨rfl, .cons r t'⟩
    | lst h => cases h
    | tup h => cases h
    | dic h => cases h
    | obj h => cases h
end
end Mir
namespace Mir
open PySem PySem.Spec PyProof.Rows L2
variable [Tn]
inductive Slot where
  | un | sh (d : D) | ow (s : Shape) (d : D)
abbrev Env := List Slot
/-- to be read: shared, or one's own with shared parts -/
def RdD (G : GC) (F H : Hp) (v : V) (d : D) : Prop := Rep G F v d ∨ ∃ A, Own G F H .flat v d A
def getS (i : Nat) (r : Env) : Res D := match r[i]? with
  | some (.sh d) => .ok d
  | _ => .bad
def getR (i : Nat) (r : Env) : Res D := match r[i]? with
  | some (.sh d) => .ok d
  | some (.ow .flat d) => .ok d
  | _ => .bad
def freeze (i : Nat) (r : Env) : Env := match r[i]? with
  | some (.ow _ d) => r.set i (.sh d)
  | _ => r
/-- what is wished of an exception; what stays true of the names' values -/
structure Wi where
  w : WX
  J : L2.St → Prop
/-- the state of a def: slots, heap; fp i: the addresses that the i-th name owns -/
structure MS (G : GC) (J : L2.St → Prop) (H0 F0 : Hp) (fp : Nat → List Addr) (F : Hp) (σ : L2.St) (H : Hp) (r : Env) : Prop where
  jo : J σ
  s0 : Stays F0 H0 F H
  f0 : Same F0 F
  sub : Same F H
  new : ∀ a o, F a = some o → F0 a = some o ∨ H0 a = none
  len : r.length = σ.length
  sh : ∀ (i : Nat) (d : D), r[i]? = some (.sh d) → ∃ v, σ[i]? = some (some v) ∧ Rep G F v d
  ow : ∀ (i : Nat) (s : Shape) (d : D), r[i]? = some (.ow s d) → (∃ v, σ[i]? = some (some v) ∧ Own G F H s v d (fp i)) ∧ ∀ a ∈ fp i, H0 a = none
  ap : ∀ (i j : Nat) (s t : Shape) (d e : D), i ≠ j → r[i]? = some (.ow s d) → r[j]? = some (.ow t e) → ∀ a ∈ fp i, a ∉ fp j
  t0 : Tt F0 H0
section
variable {G : GC} {J : L2.St → Prop} {H0 F0 F H F' H' : Hp} {fp : Nat → List Addr} {σ : L2.St} {r : Env}
theorem MS.grow (m : MS G J H0 F0 fp F σ H r) (g : Grow F H F' H') : MS G J H0 F0 fp F' σ H' r where
  jo := m.jo
  s0 := m.s0.trans g.h
  f0 := m.f0.trans g.f
  sub := g.sub
  new := fun a o e => (g.new a o e).elim (m.new a o) fun q => .inr (m.s0.free q)
  len := m.len
  sh := fun i d e => let ⟨v, h1, h2⟩ := m.sh i d e; ⟨v, h1, h2.mono g.f⟩
  ow := fun i s d e => let ⟨⟨v, h1, h2⟩, h3⟩ := m.ow i s d e; ⟨⟨v, h1, h2.grow g⟩, h3⟩
  ap := m.ap
  t0 := m.t0
theorem MS.tt (m : MS G J H0 F0 fp F σ H r) : Tt F H := m.s0.tt m.t0
theorem MS.getS (m : MS G J H0 F0 fp F σ H r) {i : Nat} {d : D} (h : getS i r = .ok d) : ∃ v, σ[i]? = some (some v) ∧ Rep G F v d := by
  unfold Mir.getS at h
  split at h
  · rename_i e; cases h; exact m.sh i _ e
  · cases h
theorem getS_not_er {i : Nat} {e : D} {r : Env} (h : Mir.getS i r = .er e) : False := by
  unfold Mir.getS at h
  split at h <;> cases h
theorem getR_not_er {i : Nat} {e : D} {r : Env} (h : Mir.getR i r = .er e) : False := by
  unfold Mir.getR at h
  split at h <;> cases h
theorem MS.getR (m : MS G J H0 F0 fp F σ H r) {i : Nat} {d : D} (h : getR i r = .ok d) : ∃ v, σ[i]? = some (some v) ∧ RdD G F H v d := by
  unfold Mir.getR at h
  split at h
  · rename_i e
    cases h
    obtain ⟨v, h1, h2⟩ := m.sh i _ e
    exact ⟨v, h1, .inl h2⟩
  · rename_i _ e
    cases h
    obtain ⟨⟨v, h1, h2⟩, _⟩ := m.ow i _ _ e
    exact ⟨v, h1, .inr ⟨_, h2⟩⟩
  · cases h
theorem get_set_slot {r : Env} {i j : Nat} {x y : Slot} (h : (r.set i x)[j]? = some y) : (i = j ∧ x = y ∧ i < r.length) ∨ (i ≠ j ∧ r[j]? = some y) := by
  by_cases e : i = j
  · subst e
    by_cases hl : i < r.length
    · rw [List.getElem?_set_self hl] at h
      exact .inl ⟨rfl, Option.some.inj h, hl⟩
    · rw [List.getElem?_eq_none (by simpa using hl)] at h
      cases h
  · rw [List.getElem?_set_ne e] at h
    exact .inr ⟨e, h⟩
/-- a shared value is put into the i-th name -/
theorem MS.setS (m : MS G J H0 F0 fp F σ H r) {v : V} {d : D} (i : Nat) (q : Rep G F v d) (hJ : ∀ σ v, J σ → J (σ.set i v)) : MS G J H0 F0 fp F (σ.set i (some v)) H (r.set i (.sh d)) where
  jo := hJ _ _ m.jo
  s0 := m.s0
  f0 := m.f0
  sub := m.sub
  new := m.new
  len := by simpa using m.len
  sh := fun j e h => by
    rcases get_set_slot h with ⟨rfl, x, hl⟩ | ⟨ne, h⟩
    · cases x
      exact ⟨v, List.getElem?_set_self (by rw [← m.len]; exact hl), q⟩
    · rw [List.getElem?_set_ne ne]
      exact m.sh j e h
  ow := fun j s e h => by
    rcases get_set_slot h with ⟨_, x, _⟩ | ⟨ne, h⟩
    · cases x
    · rw [List.getElem?_set_ne ne]
      exact m.ow j s e h
  ap := fun j k s t d e n h1 h2 => by
    rcases get_set_slot h1 with ⟨_, x, _⟩ | ⟨_, h1⟩
    · cases x
    · rcases get_set_slot h2 with ⟨_, x, _⟩ | ⟨_, h2⟩
      · cases x
      · exact m.ap j k s t d e n h1 h2
  t0 := m.t0
/-- an owned value is put into the i-th name -/
theorem MS.setO (m : MS G J H0 F0 fp F σ H r) {v : V} {d : D} {s : Shape} {A : List Addr} (i : Nat) (q : Own G F H s v d A) (hn : ∀ a ∈ A, H0 a = none) (hd : ∀ (j : Nat) (t : Shape) (e : D), j ≠ i → r[j]? = some (.ow t e) → ∀ a ∈ A, a ∉ fp j) (hJ : ∀ σ v, J σ → J (σ.set i v)) :
    MS G J H0 F0 (fun j => if j = i then A else fp j) F (σ.set i (some v)) H (r.set i (.ow s d)) where
  jo := hJ _ _ m.jo
  s0 := m.s0
  f0 := m.f0
  sub := m.sub
  new := m.new
  len := by simpa using m.len
  sh := fun j e h => by
    rcases get_set_slot h with ⟨_, x, _⟩ | ⟨ne, h⟩
    · cases x
    · rw [List.getElem?_set_ne ne]
      exact m.sh j e h
  ow := fun j s e h => by
    rcases get_set_slot h with ⟨rfl, x, hl⟩ | ⟨ne, h⟩
    · cases x
      rw [if_pos rfl]
      exact ⟨⟨v, List.getElem?_set_self (by rw [← m.len]; exact hl), q⟩, hn⟩
    · rw [List.getElem?_set_ne ne, if_neg (Ne.symm ne)]
      exact m.ow j s e h
  ap := fun j k s t d e n h1 h2 a => by
    rcases get_set_slot h1 with ⟨rfl, x, _⟩ | ⟨n1, h1⟩
    · rcases get_set_slot h2 with ⟨z, _, _⟩ | ⟨n2, h2⟩
      · exact absurd z n
      · cases x
        rw [if_pos rfl, if_neg (Ne.symm n2)]
        exact hd k t e (Ne.symm n2) h2 a
    · rcases get_set_slot h2 with ⟨rfl, x, _⟩ | ⟨n2, h2⟩
      · cases x
        rw [if_pos rfl, if_neg (Ne.symm n1)]
        exact fun ha hb => hd j s d (Ne.symm n1) h1 a hb ha
      · rw [if_neg (Ne.symm n1), if_neg (Ne.symm n2)]
        exact m.ap j k s t d e n h1 h2 a
  t0 := m.t0
/-- the i-th name's own parts become shared -/
theorem MS.freeze (m : MS G J H0 F0 fp F σ H r) (i : Nat) : ∃ F', Same F F' ∧ MS G J H0 F0 fp F' σ H (Mir.freeze i r) := by
  unfold Mir.freeze
  split
  · rename_i s d e
    obtain ⟨⟨v, h1, h2⟩, h3⟩ := m.ow i s d e
    refine ⟨share F H (fp i), share_same m.sub _, ?_⟩
    have hi : i < r.length := (List.getElem?_eq_some_iff.mp e).1
    refine ⟨m.jo, m.s0.share m.sub h2.nt, m.f0.trans (share_same m.sub _), share_sub m.sub _, fun a o q => ?_, by simpa using m.len, fun j e' h => ?_, fun j t e' h => ?_, fun j k t u d' e' n q1 q2 => ?_, m.t0⟩
    · by_cases ha : a ∈ fp i
      · exact .inr (h3 a ha)
      · rw [share_ne ha] at q
        exact m.new a o q
    · rcases get_set_slot h with ⟨rfl, x, hl⟩ | ⟨ne, h⟩
      · cases x
        exact ⟨v, h1, h2.rep m.sub _ fun _ z => z⟩
      · obtain ⟨w, q1, q2⟩ := m.sh j e' h
        exact ⟨w, q1, q2.mono (share_same m.sub _)⟩
    · rcases get_set_slot h with ⟨_, x, _⟩ | ⟨ne, h⟩
      · cases x
      · obtain ⟨⟨w, q1, q2⟩, q3⟩ := m.ow j t e' h
        refine ⟨⟨w, q1, q2.keep ⟨fun _ _ _ z => z, share_same m.sub _, fun a ha z => ?_⟩⟩, q3⟩
        rw [share_ne (m.ap j i t s e' d (Ne.symm ne) h e a ha)]
        exact z
    · rcases get_set_slot q1 with ⟨_, x, _⟩ | ⟨_, q1⟩
      · cases x
      · rcases get_set_slot q2 with ⟨_, x, _⟩ | ⟨_, q2⟩
        · cases x
        · exact m.ap j k t u d' e' n q1 q2
  · exact ⟨F, Same.refl _, m⟩
end
inductive Kd where
  | S | R
  | O (s : Shape)
/-- what may be read -/
def Kd.rd : Kd → Bool
  | .O (.parts _) => false
  | .O (.opts _) => false
  | _ => true
/-- v bears d: shared; to be read; one's own and new since H -/
def Kd.Rep (G : GC) (H F' H' : Hp) (v : V) (d : D) : Kd → Prop
  | .S => Mir.Rep G F' v d
  | .R => RdD G F' H' v d
  | .O s => ∃ A, Own G F' H' s v d A ∧ ∀ a ∈ A, H a = none
/-- an exception in the air is the datum e -/
def ExcIs (G : GC) (F : Hp) (cls : Value) (dd : Option Addr) (e : D) : Prop :=
  ∃ (c : Nat) (ws : List V) (vs : List D), e = .exc c vs ∧ cls = .ref (G.ca c) ∧ RepAll G F ws vs ∧
    ((dd = none ∧ cflds c = [] ∧ ws = []) ∨ ∃ dx, dd = some dx ∧ F dx = some (.xd ((cflds c).zip ws)) ∧ ws.length = (cflds c).length)
/-- what is due of an answer: behind it P; of an exception: the wish -/
def Out (G : GC) (W : Wi) (σ : L2.St) {α : Type} (F H : Hp) (P : Hp → Hp → α → Prop) : Res α → Prop
  | .ok a => ∀ F' H', Grow F H F' H' → P F' H' a
  | .er e => ∀ cls dd F' H', Grow F H F' H' → ExcIs G F' cls dd e → W.w cls dd σ H'
  | .bad => False
/-- the reading of an expression of worth f -/
def tE (G : GC) (W : Wi) (k : Kd) (f : Env → Res D) : TE := fun σ H Q => ∃ H0 F0 fp F r, MS G W.J H0 F0 fp F σ H r ∧ Out G W σ F H (fun F' H' d => ∀ v, k.Rep G H F' H' v d → Q v H') (f r)
def tT (G : GC) (W : Wi) (f : Env → Res Bool) : TT := fun σ H Q => ∃ H0 F0 fp F r, MS G W.J H0 F0 fp F σ H r ∧ Out G W σ F H (fun F' H' b => Q b H') (f r)
def tA (G : GC) (W : Wi) (f : Env → Res (List D)) : TA := fun σ H Q => ∃ H0 F0 fp F r, MS G W.J H0 F0 fp F σ H r ∧ Out G W σ F H (fun F' H' ds => ∀ vs, RepAll G F' vs ds → Q vs H') (f r)
abbrev RE (X : Cx) (W : Wi) (k : Kd) (e : Expr) (f : Env → Res D) : Prop := PE X e (tE (gOf X) W k f)
abbrev RT (X : Cx) (W : Wi) (e : Expr) (f : Env → Res Bool) : Prop := PT X e (tT (gOf X) W f)
abbrev RA (X : Cx) (W : Wi) (es : List Expr) (f : Env → Res (List D)) : Prop := PA X es (tA (gOf X) W f)
theorem _root_.L2.PE.imp {X : Cx} {e : Expr} {t t' : TE} (h : PE X e t) (i : ∀ σ H Q, t' σ H Q → t σ H Q) : PE X e t' := ⟨fun pins s σ H Q I hw => h.run pins s σ H Q I (i σ H Q hw)⟩
theorem _root_.L2.PT.imp {X : Cx} {e : Expr} {t t' : TT} (h : PT X e t) (i : ∀ σ H Q, t' σ H Q → t σ H Q) : PT X e t' := ⟨fun pins s σ H Q I hw => h.run pins s σ H Q I (i σ H Q hw)⟩
theorem _root_.L2.PW.imp {X : Cx} {e : Expr} {t t' : TT} (h : PW X e t) (i : ∀ σ H Q, t' σ H Q → t σ H Q) : PW X e t' := ⟨fun wh pins s σ H Q I hw => h.run wh pins s σ H Q I (i σ H Q hw)⟩
theorem _root_.L2.PA.imp {X : Cx} {e : List Expr} {t t' : TA} (h : PA X e t) (i : ∀ σ H Q, t' σ H Q → t σ H Q) : PA X e t' := ⟨fun pos pins s σ H Q I hw => h.run pos pins s σ H Q I (i σ H Q hw)⟩
theorem _root_.L2.PS.imp {X : Cx} {e : Stmt} {t t' : TS} (h : PS X e t) (i : ∀ D σ H, t' D σ H → t D σ H) : PS X e t' := ⟨fun pins s σ H D I hw => h.run pins s σ H D I (i D σ H hw)⟩
theorem _root_.L2.PSs.imp {X : Cx} {e : List Stmt} {t t' : TS} (h : PSs X e t) (i : ∀ D σ H, t' D σ H → t D σ H) : PSs X e t' := ⟨fun pins s σ H D I hw => h.run pins s σ H D I (i D σ H hw)⟩
section
variable {G : GC} {J : L2.St → Prop} {W : Wi} {k : Kd} {σ : L2.St} {H F H1 F1 : Hp} {H0 F0 : Hp} {fp : Nat → List Addr} {r : Env} {α β : Type}
theorem Kd.R_of {k : Kd} {H F' H' : Hp} {v : V} {d : D} (hk : k.rd = true) (h : k.Rep G H F' H' v d) : Kd.R.Rep G H F' H' v d := by
  cases k with
  | S => exact Or.inl h
  | R => exact h
  | O s =>
    obtain ⟨A, ow, _⟩ := h
    cases s with
    | sh =>
      cases ow with
      | sh r => exact Or.inl r
      | lst h => cases h
      | tup h => cases h
      | dic h => cases h
      | obj h => cases h
    | flat => exact Or.inr ⟨A, ow⟩
    | parts l => cases hk
    | opts l => cases hk
theorem Kd.Rep.later (s : Fre H H1) : ∀ {k : Kd} {F' H' : Hp} {v : V} {d : D}, k.Rep G H1 F' H' v d → k.Rep G H F' H' v d
  | .S, _, _, _, _, h => h
  | .R, _, _, _, _, h => h
  | .O _, _, _, _, _, ⟨A, h, n⟩ => ⟨A, h, fun a ha => s a (n a ha)⟩
/-- it stays while the heap grows -/
theorem Kd.Rep.grow {H F1 H1 F2 H2 : Hp} (g : Grow F1 H1 F2 H2) : ∀ {k : Kd} {v : V} {d : D}, k.Rep G H F1 H1 v d → k.Rep G H F2 H2 v d
  | .S, _, _, h => Mir.Rep.mono g.f h
  | .R, _, _, .inl h => .inl (Mir.Rep.mono g.f h)
  | .R, _, _, .inr ⟨A, h⟩ => .inr ⟨A, h.grow g⟩
  | .O _, _, _, ⟨A, h, n⟩ => ⟨A, h.grow g, n⟩
theorem Out.grow {P : Hp → Hp → α → Prop} {x : Res α} (h : Out G W σ F H P x) (g : Grow F H F1 H1) : Out G W σ F1 H1 P x := by
  cases x with
  | ok a => exact fun F' H' q => h F' H' (g.trans q)
  | er e => exact fun cls dd F' H' q => h cls dd F' H' (g.trans q)
  | bad => exact h
theorem Out.imp {P P' : Hp → Hp → α → Prop} {x : Res α} (h : Out G W σ F H P x) (i : ∀ F' H' a, Grow F H F' H' → P F' H' a → P' F' H' a) : Out G W σ F H P' x := by
  cases x with
  | ok a => exact fun F' H' q => i F' H' a q (h F' H' q)
  | er e => exact h
  | bad => exact h
/-- behind the first of two -/
theorem Out.bind {P : Hp → Hp → β → Prop} {P1 : Hp → Hp → α → Prop} {x : Res α} {g : α → Res β} (h : Out G W σ F H P (x >>= g)) (i : ∀ F' H' a, Grow F H F' H' → Out G W σ F' H' P (g a) → P1 F' H' a) : Out G W σ F H P1 x := by
  cases x with
  | ok a => exact fun F' H' q => i F' H' a q (Out.grow h q)
  | er e => exact h
  | bad => exact h
theorem Out.val {P : Hp → Hp → α → Prop} {x : Res α} {a : α} (h : Out G W σ F H P x) (e : x = .ok a) (s : Same F H) : P F H a := by
  subst e
  exact h F H (Grow.refl s)
end
section
variable {X : Cx} {W : Wi}
theorem re_var (i : Nat) {x : Str} {pos : Pos} (hN : X.N[i]? = some x := by rfl) (hv : Vis X.env.scope x := by first | exact Or.inl rfl | exact Or.inr (Or.inl rfl) | exact Or.inr (Or.inr rfl)) (hd : (x == ("__debug__" : Str)) = false := by decide)
    (hcd : (x == ("__classdict__" : Str)) = false := by decide) : RE X W .S (.Name x pos) (getS i) := by
  refine (pe_var hN hv hd hcd).imp fun σ H Q ⟨H0, F0, fp, F, r, m, o⟩ => ?_
  cases e : getS i r with
  | ok d =>
    obtain ⟨v, h1, h2⟩ := m.getS e
    exact ⟨v, h1, o.val e m.sub v h2⟩
  | er x => exact (getS_not_er e).elim
  | bad => rw [e] at o; exact o.elim
theorem re_varR (i : Nat) {x : Str} {pos : Pos} (hN : X.N[i]? = some x := by rfl) (hv : Vis X.env.scope x := by first | exact Or.inl rfl | exact Or.inr (Or.inl rfl) | exact Or.inr (Or.inr rfl)) (hd : (x == ("__debug__" : Str)) = false := by decide)
    (hcd : (x == ("__classdict__" : Str)) = false := by decide) : RE X W .R (.Name x pos) (getR i) := by
  refine (pe_var hN hv hd hcd).imp fun σ H Q ⟨H0, F0, fp, F, r, m, o⟩ => ?_
  cases e : getR i r with
  | ok d =>
    obtain ⟨v, h1, h2⟩ := m.getR e
    exact ⟨v, h1, o.val e m.sub v h2⟩
  | er x => exact (getR_not_er e).elim
  | bad => rw [e] at o; exact o.elim
theorem re_cst {e : Expr} {v : V} {d : D} (h : PE X e (tC v)) (r : ∀ F, Rep (gOf X) F v d) : RE X W .S e (fun _ => .ok d) :=
  h.imp fun σ H Q ⟨H0, F0, fp, F, _, m, o⟩ => o F H (Grow.refl m.sub) v (r F)
theorem re_int {i j pos} : RE X W .S (.Constant (.int i) j pos) (fun _ => .ok (.int i)) := re_cst pe_int fun _ => .int i
theorem re_bl {b j pos} : RE X W .S (.Constant (.bool b) j pos) (fun _ => .ok (.bl b)) := re_cst pe_bl fun _ => .bl b
theorem re_non {j pos} : RE X W .S (.Constant .none j pos) (fun _ => .ok .non) := re_cst pe_non fun _ => .non
theorem re_str {x j pos} : RE X W .S (.Constant (.str x) j pos) (fun _ => .ok (.str x)) := re_cst pe_str fun _ => .str x
/-- a shared value, one's own: to be read -/
theorem re_rd {k : Kd} {e : Expr} {f : Env → Res D} (h : RE X W k e f) (hk : k.rd = true := by rfl) : RE X W .R e f :=
  h.imp fun σ H Q ⟨H0, F0, fp, F, r, m, o⟩ => ⟨H0, F0, fp, F, r, m, o.imp fun F' H' d _ p v kr => p v (Kd.R_of hk kr)⟩
/-- one's own is shared -/
theorem re_share {s : Shape} {e : Expr} {f : Env → Res D} (h : RE X W (.O s) e f) : RE X W .S e f :=
  h.imp fun σ H Q ⟨H0, F0, fp, F, r, m, o⟩ => ⟨H0, F0, fp, F, r, m, by
    cases e : f r with
    | ok d =>
      rw [e] at o
      intro F' H' g v ⟨A, ow, n⟩
      refine o (share F' H' A) H' ⟨g.h.share g.sub ow.nt, g.f.trans (share_same g.sub A), share_sub g.sub A, fun a u q => ?_⟩ v (ow.rep g.sub A fun _ z => z)
      by_cases ha : a ∈ A
      · exact .inr (n a ha)
      · rw [share_ne ha] at q
        exact g.new a u q
    | er x => rw [e] at o; exact o
    | bad => rw [e] at o; exact o⟩
theorem ra_nil : RA X W [] (fun _ => .ok []) := pa_nil.imp fun σ H Q ⟨H0, F0, fp, F, r, m, o⟩ => o F H (Grow.refl m.sub) [] .nil
theorem ra_cons {e : Expr} {es : List Expr} {f : Env → Res D} {g : Env → Res (List D)} (he : RE X W .S e f) (hr : RA X W es g) (hs : starEach (e :: es) X.env = (false, eval e X.env) :: starEach es X.env := by rfl) :
    RA X W (e :: es) (fun r => f r >>= fun d => g r >>= fun ds => .ok (d :: ds)) :=
  (pa_cons he hr hs).imp fun σ H Q ⟨H0, F0, fp, F, r, m, o⟩ => ⟨H0, F0, fp, F, r, m, o.bind fun F1 H1 d g1 o1 v kv =>
    ⟨H0, F0, fp, F1, r, m.grow g1, o1.bind fun F2 H2 ds g2 o2 vs rv => o2 F2 H2 (Grow.refl g2.sub) (v :: vs) (.cons (Mir.Rep.mono g2.f kv) rv)⟩⟩
end
/-- what an operation by values is worth -/
def OpD (G : GC) (rr : R2) (k1 k2 k : Kd) (op : D → D → Res D) : Prop := ∀ (F H : Hp) (x y : V) (a b d : D) (Q : VK) (Ha Hb : Hp), Same F H → k1.Rep G Ha F H x a → k2.Rep G Hb F H y b → op a b = .ok d → (∀ v F' H', Grow F H F' H' → k.Rep G H F' H' v d → Q v H') → rr x y H Q
def NoEr2 (op : D → D → Res D) : Prop := ∀ a b e, op a b ≠ .er e
section
variable {X : Cx} {W : Wi} {k1 k2 k : Kd} {a b : Expr} {fa fb : Env → Res D} {pos : Pos} {op : D → D → Res D}
theorem t_op {rr : R2} (h : OpD (gOf X) rr k1 k2 k op) (ne : NoEr2 op) (σ : L2.St) (H : Hp) (Q : VK)
    (t : tE (gOf X) W k (fun r => fa r >>= fun x => fb r >>= fun y => op x y) σ H Q) : tOp rr (tE (gOf X) W k1 fa) (tE (gOf X) W k2 fb) σ H Q := by
  obtain ⟨H0, F0, fp, F, r, m, o⟩ := t
  refine ⟨H0, F0, fp, F, r, m, o.bind fun F1 H1 d g1 o1 v kv => ⟨H0, F0, fp, F1, r, m.grow g1, o1.bind fun F2 H2 e g2 o2 u ku => ?_⟩⟩
  cases z : op d e with
  | ok w =>
    rw [z] at o2
    exact h F2 H2 v u d e w Q _ _ g2.sub (kv.grow g2) ku z fun v' F' H' g kr => o2 F' H' g v' (kr.later (g1.h.trans g2.h).fre)
  | er x => exact (ne _ _ _ z).elim
  | bad => rw [z] at o2; exact o2.elim
theorem re_op {o : Operator} {rr : R2} (ho : OpR X (binaryOp o) rr) (h : OpD (gOf X) rr k1 k2 k op) (ne : NoEr2 op) (ha : RE X W k1 a fa) (hb : RE X W k2 b fb) :
    RE X W k (.BinOp a o b pos) (fun r => fa r >>= fun x => fb r >>= fun y => op x y) := (pe_op ho ha hb).imp (t_op h ne)
theorem re_cmp {o : CmpOp} {rr : R2} (ho : OpR X (compareOp o) rr) (h : OpD (gOf X) rr k1 k2 k op) (ne : NoEr2 op) (ha : RE X W k1 a fa) (hb : RE X W k2 b fb) (hm : behindInMarks o b = false) :
    RE X W k (.Compare a [o] [b] pos) (fun r => fa r >>= fun x => fb r >>= fun y => op x y) := (pe_cmpR ho ha hb hm).imp (t_op h ne)
end
end Mir
namespace Mir
open PySem PySem.Spec PyProof.Rows L2
variable [Tn]
/-- how a block ends -/
inductive Oc where
  | nx (r : Env) | rt (d : D) | bk (r : Env) | ct (r : Env) | er (e : D) (r : Env) | bad
def Oc.seq (o : Oc) (g : Env → Oc) : Oc := match o with
  | .nx r => g r
  | o => o
@[simp] theorem nx_seq (r : Env) (g : Env → Oc) : (Oc.nx r).seq g = g r := rfl
@[simp] theorem rt_seq (d : D) (g : Env → Oc) : (Oc.rt d).seq g = .rt d := rfl
@[simp] theorem bk_seq (r : Env) (g : Env → Oc) : (Oc.bk r).seq g = .bk r := rfl
@[simp] theorem ct_seq (r : Env) (g : Env → Oc) : (Oc.ct r).seq g = .ct r := rfl
@[simp] theorem er_seq (e : D) (r : Env) (g : Env → Oc) : (Oc.er e r).seq g = .er e r := rfl
@[simp] theorem bad_seq (g : Env → Oc) : Oc.bad.seq g = .bad := rfl
/-- an expression ahead of the rest -/
def lift {α : Type} (x : Res α) (r : Env) (g : α → Oc) : Oc := match x with
  | .ok a => g a
  | .er e => .er e r
  | .bad => .bad
@[simp] theorem lift_ok {α : Type} (a : α) (r : Env) (g : α → Oc) : lift (.ok a) r g = g a := rfl
@[simp] theorem lift_er {α : Type} (e : D) (r : Env) (g : α → Oc) : lift (.er e : Res α) r g = .er e r := rfl
@[simp] theorem lift_bad {α : Type} (r : Env) (g : α → Oc) : lift (.bad : Res α) r g = .bad := rfl
/-- the names behind a target -/
def into (x : Res Env) : Oc := match x with
  | .ok r => .nx r
  | _ => .bad
@[simp] theorem into_ok (r : Env) : into (.ok r) = .nx r := rfl
/-- what is due behind a statement -/
def OutS (G : GC) (W : Wi) (k : Kd) (H0 F0 F : Hp) (D : Ends) : Oc → Prop
  | .nx r => ∀ fp F' σ' H', Same F F' → MS G W.J H0 F0 fp F' σ' H' r → D.nx σ' H'
  | .rt d => ∀ F' H' v, Same F F' → Grow F0 H0 F' H' → k.Rep G H0 F' H' v d → D.rt v H'
  | .bk r => ∀ fp F' σ' H', Same F F' → MS G W.J H0 F0 fp F' σ' H' r → D.bk σ' H'
  | .ct r => ∀ fp F' σ' H', Same F F' → MS G W.J H0 F0 fp F' σ' H' r → D.ct σ' H'
  | .er e r => ∀ fp F' σ' H' cls dd, Same F F' → MS G W.J H0 F0 fp F' σ' H' r → ExcIs G F' cls dd e → W.w cls dd σ' H'
  | .bad => False
def tS (G : GC) (W : Wi) (k : Kd) (g : Env → Oc) : TS := fun D σ H => ∃ H0 F0 fp F r, MS G W.J H0 F0 fp F σ H r ∧ OutS G W k H0 F0 F D (g r)
abbrev RS (X : Cx) (W : Wi) (k : Kd) (s : Stmt) (g : Env → Oc) : Prop := PS X s (tS (gOf X) W k g)
abbrev RSs (X : Cx) (W : Wi) (k : Kd) (s : List Stmt) (g : Env → Oc) : Prop := PSs X s (tS (gOf X) W k g)
section
variable {G : GC} {W : Wi} {k : Kd} {σ : L2.St} {H F F1 : Hp} {H0 F0 : Hp} {fp : Nat → List Addr} {r : Env} {D : Ends}
theorem MS.g0 {J : L2.St → Prop} (m : MS G J H0 F0 fp F σ H r) : Grow F0 H0 F H := ⟨m.s0, m.f0, m.sub, m.new⟩
theorem OutS.same {o : Oc} (h : OutS G W k H0 F0 F D o) (s : Same F F1) : OutS G W k H0 F0 F1 D o := by
  cases o with
  | nx r => exact fun fp F' σ' H' q m => h fp F' σ' H' (s.trans q) m
  | rt d => exact fun F' H' v q g kr => h F' H' v (s.trans q) g kr
  | bk r => exact fun fp F' σ' H' q m => h fp F' σ' H' (s.trans q) m
  | ct r => exact fun fp F' σ' H' q m => h fp F' σ' H' (s.trans q) m
  | er e r => exact fun fp F' σ' H' cls dd q m x => h fp F' σ' H' cls dd (s.trans q) m x
  | bad => exact h
/-- the first of two -/
theorem OutS.seq {o : Oc} {g : Env → Oc} (h : OutS G W k H0 F0 F D (o.seq g)) : OutS G W k H0 F0 F { D with nx := tS G W k g D } o := by
  cases o with
  | nx r => exact fun fp F' σ' H' q m => ⟨H0, F0, fp, F', r, m, h.same q⟩
  | rt d => exact h
  | bk r => exact h
  | ct r => exact h
  | er e r => exact h
  | bad => exact h
/-- an expression ahead -/
theorem OutS.lift {α : Type} {x : Res α} {g : α → Oc} {P : Hp → Hp → α → Prop} (m : MS G W.J H0 F0 fp F σ H r) (h : OutS G W k H0 F0 F D (lift x r g)) (i : ∀ F' H' a, Grow F H F' H' → OutS G W k H0 F0 F' D (g a) → P F' H' a) : Out G W σ F H P x := by
  cases x with
  | ok a => exact fun F' H' gr => i F' H' a gr (OutS.same h gr.f)
  | er e => exact fun cls dd F' H' gr x => h fp F' σ H' cls dd gr.f (m.grow gr) x
  | bad => exact h
end
section
variable {X : Cx} {W : Wi} {k : Kd}
theorem rss_nil : RSs X W k [] (fun r => .nx r) := pss_nil.imp fun D σ H ⟨H0, F0, fp, F, r, m, o⟩ => o fp F σ H (Same.refl _) m
theorem rss_cons {s : Stmt} {ss : List Stmt} {g1 g2 : Env → Oc} (h1 : RS X W k s g1) (h2 : RSs X W k ss g2) : RSs X W k (s :: ss) (fun r => (g1 r).seq g2) :=
  (pss_cons h1 h2).imp fun D σ H ⟨H0, F0, fp, F, r, m, o⟩ => ⟨H0, F0, fp, F, r, m, o.seq⟩
theorem rss_one {s : Stmt} {g : Env → Oc} (h1 : RS X W k s g) : RSs X W k [s] g := pss_one h1
/-- names that one owns are shared ahead of a statement -/
theorem rs_freeze (i : Nat) {s : Stmt} {g : Env → Oc} (h : RS X W k s g) : RS X W k s (fun r => g (freeze i r)) :=
  h.imp fun D σ H ⟨H0, F0, fp, F, r, m, o⟩ => let ⟨F', s, m'⟩ := m.freeze i; ⟨H0, F0, fp, F', _, m', o.same s⟩
theorem rs_if {c : Expr} {a b : List Stmt} {pos : Pos} {f : Env → Res Bool} {ga gb : Env → Oc} (hc : RT X W c f) (ha : RSs X W k a ga) (hb : RSs X W k b gb) :
    RS X W k (.If c a b pos) (fun r => lift (f r) r fun t => if t = true then ga r else gb r) :=
  (ps_if hc ha hb).imp fun D σ H ⟨H0, F0, fp, F, r, m, o⟩ => ⟨H0, F0, fp, F, r, m, o.lift m fun F' H' t g o' => by
    cases t with
    | true => exact ⟨H0, F0, fp, F', r, m.grow g, o'⟩
    | false => exact ⟨H0, F0, fp, F', r, m.grow g, o'⟩⟩
theorem rs_ret {e : Expr} {pos : Pos} {f : Env → Res D} (he : RE X W k e f) : RS X W k (.Return (some e) pos) (fun r => lift (f r) r fun d => .rt d) :=
  (ps_ret he).imp fun D σ H ⟨H0, F0, fp, F, r, m, o⟩ => ⟨H0, F0, fp, F, r, m, o.lift m fun F' H' d g o' v kv => o' F' H' v (Same.refl _) (m.grow g).g0 (kv.later m.s0.fre)⟩
theorem rs_expr {k' : Kd} {e : Expr} {pos : Pos} {f : Env → Res D} (he : RE X W k' e f) (hs : swapsWith e none pos.line X.env = pure false := by rfl) : RS X W k (.Expr e pos) (fun r => lift (f r) r fun _ => .nx r) :=
  (ps_expr he hs).imp fun D σ H ⟨H0, F0, fp, F, r, m, o⟩ => ⟨H0, F0, fp, F, r, m, o.lift m fun F' H' d g o' v kv => o' fp F' σ H' (Same.refl _) (m.grow g)⟩
theorem jset {i j : Nat} {v0 : Option (Option V)} (h : i ≠ j) : ∀ (σ : L2.St) (v : Option V), σ[j]? = v0 → (σ.set i v)[j]? = v0 := fun σ v e => (List.getElem?_set_ne h).trans e
/-- the names of a def that got a lambda: the third holds it, from the sixth on stands what it captured -/
def PinsF (gs : List Nat) (f : Addr) (ws : List V) (τ : L2.St) : Prop := τ[2]? = some (some (.ref f)) ∧ gs.map (fun j => τ[j]?) = ws.map (fun v => some (some v)) ∧ ∀ j ∈ gs, 6 ≤ j
theorem jfn {i : Nat} {gs : List Nat} {f : Addr} {ws : List V} (h : i ≠ 2 ∧ i < 6) : ∀ (σ : L2.St) (v : Option V), PinsF gs f ws σ → PinsF gs f ws (σ.set i v) := fun σ v ⟨a, b, c⟩ => by
  refine ⟨(List.getElem?_set_ne h.1).trans a, ?_, c⟩
  rw [← b]
  exact List.map_congr_left fun j hj => List.getElem?_set_ne (by have := c j hj; omega)
def tGd (G : GC) (J : L2.St → Prop) (g : D → Env → Res Env) : TG := fun v σ H Q => ∃ H0 F0 fp F r d, MS G J H0 F0 fp F σ H r ∧ Rep G F v d ∧ ∃ r', g d r = .ok r' ∧ ∀ fp' σ', MS G J H0 F0 fp' F σ' H r' → Q σ' H
def tGds (G : GC) (J : L2.St → Prop) (g : List D → Env → Res Env) : TGs := fun vs σ H Q => ∃ H0 F0 fp F r ds, MS G J H0 F0 fp F σ H r ∧ RepAll G F vs ds ∧ ∃ r', g ds r = .ok r' ∧ ∀ fp' σ', MS G J H0 F0 fp' F σ' H r' → Q σ' H
abbrev RG (X : Cx) (J : L2.St → Prop) (tg : Expr) (g : D → Env → Res Env) : Prop := PG X tg (tGd (gOf X) J g)
abbrev RGs (X : Cx) (J : L2.St → Prop) (tg : List Expr) (g : List D → Env → Res Env) : Prop := PGs X tg (tGds (gOf X) J g)
theorem PG.imp {e : Expr} {t t' : TG} (h : PG X e t) (i : ∀ v σ H Q, t' v σ H Q → t v σ H Q) : PG X e t' := ⟨fun pins s σ H v u Q I r hw => h.run pins s σ H v u Q I r (i v σ H Q hw)⟩
theorem PGs.imp {e : List Expr} {t t' : TGs} (h : PGs X e t) (i : ∀ v σ H Q, t' v σ H Q → t v σ H Q) : PGs X e t' := ⟨fun pins s σ H v u Q I r hw => h.run pins s σ H v u Q I r (i v σ H Q hw)⟩
theorem rg_name {J : L2.St → Prop} (i : Nat) {x : Str} {pos : Pos} (hN : X.N.Nodup) (hJ : ∀ σ v, J σ → J (σ.set i v) := by first | exact fun _ _ h => h | exact jset (by decide) | exact jfn (by decide)) (hi : X.N[i]? = some x := by rfl) (hx : Loc X.env.scope x := by first | exact Or.inl rfl | exact Or.inr rfl) (hf : X.fn x = true ∨ X.env.scope.names.lookup x = some .local := by first | exact .inl rfl | exact .inr rfl) :
    RG X J (.Name x pos) (fun d r => .ok (r.set i (.sh d))) :=
  PG.imp (pg_name hN hi hx hf) fun v σ H Q ⟨H0, F0, fp, F, r, d, m, rv, r', e, q⟩ => by
    cases e
    exact q fp _ (m.setS i rv hJ)
theorem rgs_nil {J : L2.St → Prop} : RGs X J [] (fun ds r => match ds with
    | [] => .ok r
    | _ => .bad) :=
  PGs.imp pgs_nil fun vs σ H Q ⟨H0, F0, fp, F, r, ds, m, rv, r', e, q⟩ => by
    cases rv with
    | nil => cases e; exact ⟨rfl, q fp σ m⟩
    | cons _ _ => cases e
theorem rgs_cons {J : L2.St → Prop} {e : Expr} {es : List Expr} {g : D → Env → Res Env} {gs : List D → Env → Res Env} (h1 : RG X J e g) (h2 : RGs X J es gs) (hs : (assignEach (e :: es) X.env).map (·.2) = assign e X.env :: (assignEach es X.env).map (·.2) := by rfl) :
    RGs X J (e :: es) (fun ds r => match ds with
    | d :: ds => g d r >>= fun r' => gs ds r'
    | [] => .bad) :=
  PGs.imp (pgs_cons h1 h2 hs) fun vs σ H Q ⟨H0, F0, fp, F, r, ds, m, rv, r', e, q⟩ => by
    cases rv with
    | nil => cases e
    | @cons v d vs ds rv rr =>
      have e' : (g d r >>= fun r' => gs ds r') = .ok r' := e
      cases e1 : g d r with
      | ok r1 =>
        rw [e1] at e'
        exact ⟨v, vs, rfl, H0, F0, fp, F, r, d, m, rv, r1, e1, fun fp1 σ1 m1 => ⟨H0, F0, fp1, F, r1, ds, m1, rr, r', e', q⟩⟩
      | er x => rw [e1] at e'; cases e'
      | bad => rw [e1] at e'; cases e'
theorem rg_tup {J : L2.St → Prop} {es : List Expr} {kk : Nat} {pos : Pos} {gs : List D → Env → Res Env} {n : Nat} (hc : X.calm = true) (h : RGs X J es gs) (hn : (assignEach es X.env).length = n := by rfl) (hst : (assignEach es X.env).findIdx? (·.1) = none := by rfl) :
    RG X J (.Tuple es kk pos) (fun d r => match d with
    | .tup ds => if ds.length = n then gs ds r else .bad
    | _ => .bad) :=
  PG.imp (pg_tup hc h hn hst) fun v σ H Q ⟨H0, F0, fp, F, r, d, m, rv, r', e, q⟩ => by
    cases rv with
    | @tup a vs ds sq ra =>
      have e' : (if ds.length = n then gs ds r else .bad) = .ok r' := e
      split at e'
      · rename_i hl
        exact ⟨a, vs, rfl, Same.sqT m.sub sq, by rw [ra.length]; exact hl, H0, F0, fp, F, r, ds, m, ra, r', e', q⟩
      · cases e'
    | _ => cases e
theorem t_asg {e : Expr} {te : TE} {f : Env → Res D} {g : D → Env → Res Env} {D : Ends} {σ : L2.St} {H : Hp}
    (t : tS (gOf X) W k (fun r => lift (f r) r fun d => into (g d r)) D σ H) : tAsg (tE (gOf X) W .S f) (tGd (gOf X) W.J g) D σ H := by
  obtain ⟨H0, F0, fp, F, r, m, o⟩ := t
  refine ⟨H0, F0, fp, F, r, m, o.lift m fun F' H' d gr o' v kv => ?_⟩
  cases e1 : g d r with
  | ok r1 =>
    rw [e1] at o'
    exact ⟨H0, F0, fp, F', r, d, m.grow gr, kv, r1, e1, fun fp' σ' m' => o' fp' F' σ' H' (Same.refl _) m'⟩
  | er x => rw [e1] at o'; exact o'.elim
  | bad => rw [e1] at o'; exact o'.elim
theorem rs_asg {tg e : Expr} {pos : Pos} {f : Env → Res D} {g : D → Env → Res Env} (he : RE X W .S e f) (hg : RG X W.J tg g) (hs : swapsWithSole [tg] e pos.line X.env = pure false := by rfl) (hw : swappedStores [tg] e X.env = pure none := by rfl)
    (h1 : (assignEach [tg] X.env).map (·.2) = [assign tg X.env] := by rfl) : RS X W k (.Assign [tg] e pos) (fun r => lift (f r) r fun d => into (g d r)) :=
  (ps_asg he hg hs hw h1).imp fun D σ H t => t_asg (e := e) (te := tE (gOf X) W .S f) t
theorem rs_set (i : Nat) {x : Str} {e : Expr} {pos pos' : Pos} {f : Env → Res D} (hN : X.N.Nodup) (he : RE X W .S e f) (hJ : ∀ σ v, W.J σ → W.J (σ.set i v) := by first | exact fun _ _ h => h | exact jset (by decide) | exact jfn (by decide)) (hi : X.N[i]? = some x := by rfl) (hx : Loc X.env.scope x := by first | exact Or.inl rfl | exact Or.inr rfl)
    (hs : swapsWith e (some (.Name x pos')) pos.line X.env = pure false := by rfl) (hf : X.fn x = true ∨ X.env.scope.names.lookup x = some .local := by first | exact .inl rfl | exact .inr rfl) :
    RS X W k (.Assign [.Name x pos'] e pos) (fun r => lift (f r) r fun d => .nx (r.set i (.sh d))) :=
  (ps_set hN hi hx he hs hf).imp fun D σ H ⟨H0, F0, fp, F, r, m, o⟩ => ⟨H0, F0, fp, F, r, m, o.lift m fun F' H' d gr o' v kv => o' fp F' _ H' (Same.refl _) ((m.grow gr).setS i kv hJ)⟩
theorem MS.setNew {G : GC} {J : L2.St → Prop} {H0 F0 F H F' H' : Hp} {fp : Nat → List Addr} {σ : L2.St} {r : Env} (m : MS G J H0 F0 fp F σ H r) (gr : Grow F H F' H') {v : V} {d : D} {s : Shape} (i : Nat) (kv : (Kd.O s).Rep G H F' H' v d) (hJ : ∀ σ v, J σ → J (σ.set i v)) :
    ∃ fp', MS G J H0 F0 fp' F' (σ.set i (some v)) H' (r.set i (.ow s d)) := by
  obtain ⟨A, ow, n⟩ := kv
  refine ⟨_, (m.grow gr).setO i ow (fun a ha => m.s0.free (n a ha)) (fun j t e ne h a ha hb => ?_) hJ⟩
  obtain ⟨⟨w, _, o2⟩, _⟩ := m.ow j t e h
  obtain ⟨_, u, z⟩ := o2.there a hb
  rw [n a ha] at z
  cases z
/-- name = a thing of one's own -/
theorem rs_setO (i : Nat) {s : Shape} {x : Str} {e : Expr} {pos pos' : Pos} {f : Env → Res D} (hN : X.N.Nodup) (he : RE X W (.O s) e f) (hJ : ∀ σ v, W.J σ → W.J (σ.set i v) := by first | exact fun _ _ h => h | exact jset (by decide) | exact jfn (by decide)) (hi : X.N[i]? = some x := by rfl) (hx : Loc X.env.scope x := by first | exact Or.inl rfl | exact Or.inr rfl)
    (hs : swapsWith e (some (.Name x pos')) pos.line X.env = pure false := by rfl) (hf : X.fn x = true ∨ X.env.scope.names.lookup x = some .local := by first | exact .inl rfl | exact .inr rfl) :
    RS X W k (.Assign [.Name x pos'] e pos) (fun r => lift (f r) r fun d => .nx (r.set i (.ow s d))) :=
  (ps_set hN hi hx he hs hf).imp fun D σ H ⟨H0, F0, fp, F, r, m, o⟩ => ⟨H0, F0, fp, F, r, m, o.lift m fun F' H' d gr o' v kv =>
    let ⟨fp', m'⟩ := m.setNew gr i kv hJ
    o' fp' F' _ H' (Same.refl _) m'⟩
end
/-- from the heap B on J walks the data ds, their parts in F -/
structure WalkD (G : GC) (F B : Hp) (J : It) (ds : List D) : Prop where
  goes : ∀ i H, i < ds.length → Same B H → J.go i H
  stops : ∀ H, Same B H → J.stop ds.length H
  yields : ∀ (i : Nat) F2 H2 x H3, i < ds.length → Same F F2 → Same F2 H2 → Same B H2 → J.yld i H2 x H3 → ∃ F3 d, Grow F2 H2 F3 H3 ∧ ds[i]? = some d ∧ Rep G F3 x d
def tI (G : GC) (W : Wi) (b : Bool) (f : Env → Res (List D)) : TI := fun σ H R => ∃ H0 F0 fp F r, MS G W.J H0 F0 fp F σ H r ∧ Out G W σ F H (fun F' H' ds => ∀ J, WalkD G F' (if b = true then F' else nT H') J ds → R J H') (f r)
/-- what a for walks: b: it stands in the shared part -/
abbrev RI (X : Cx) (W : Wi) (b : Bool) (tg iter : Expr) (f : Env → Res (List D)) : Prop := PI X tg iter (tI (gOf X) W b f)
def forD (f : D → Env → Oc) : List D → Env → Oc
  | [], r => .nx r
  | d :: ds, r => match f d r with
    | .nx r' => forD f ds r'
    | .ct r' => forD f ds r'
    | .bk r' => .nx r'
    | o => o
@[simp] theorem forD_nil (f : D → Env → Oc) (r : Env) : forD f [] r = .nx r := rfl
theorem forD_cons (f : D → Env → Oc) (d : D) (ds : List D) (r : Env) : forD f (d :: ds) r = match f d r with
    | .nx r' => forD f ds r'
    | .ct r' => forD f ds r'
    | .bk r' => .nx r'
    | o => o := rfl
section
variable {X : Cx} {W : Wi} {k : Kd}
theorem rs_for {tg iter : Expr} {body : List Stmt} {pos : Pos} {f : Env → Res (List D)} {g : D → Env → Res Env} {gb : Env → Oc} (hp : PassesOwn (model X.prog X.w) X.A X.env X.xe) (hc : X.calm = true) (hi : RI X W true tg iter f) (hg : RG X W.J tg g) (hb : RSs X W k body gb)
    (hs : ∀ x, foldedSetIterable iter X.env x = pure x := by intro _; rfl) : RS X W k (.For tg iter body [] pos) (fun r => lift (f r) r fun ds => forD (fun d r => (into (g d r)).seq gb) ds r) :=
  (ps_for hp hc hi hg hb hs).imp fun D σ H ⟨H0, F0, fp, F, r, m, o⟩ => ⟨H0, F0, fp, F, r, m, o.lift m fun F1 H1 ds gr o1 J w => by
    rw [if_pos rfl] at w
    refine ⟨fun i n σ H => n = ds.length - i ∧ i ≤ ds.length ∧ ∃ fp F r, Same F1 F ∧ MS (gOf X) W.J H0 F0 fp F σ H r ∧ OutS (gOf X) W k H0 F0 F D (forD (fun d r => (into (g d r)).seq gb) (ds.drop i) r),
      ⟨ds.length, by simp, Nat.zero_le _, fp, F1, r, Same.refl _, m.grow gr, by simpa using o1⟩, ?_⟩
    rintro i n σ H ⟨rfl, hi, fp, F, r, sF, m, o⟩
    by_cases hlt : i < ds.length
    · refine .inr ⟨w.goes i H hlt (sF.trans m.sub), fun σ' H' => i + 1 ≤ ds.length ∧ ∃ fp F r, Same F1 F ∧ MS (gOf X) W.J H0 F0 fp F σ' H' r ∧ OutS (gOf X) W k H0 F0 F D (forD (fun d r => (into (g d r)).seq gb) (ds.drop (i + 1)) r),
        fun σ' H' ⟨h1, h2⟩ => ⟨ds.length - (i + 1), by omega, rfl, h1, h2⟩, fun x H' y => ?_⟩
      obtain ⟨F3, d, g3, ed, rx⟩ := w.yields i F H x H' hlt sF m.sub (sF.trans m.sub) y
      have e : ds.drop i = d :: ds.drop (i + 1) := by
        rw [List.drop_eq_getElem_cons hlt]
        rw [List.getElem?_eq_getElem hlt] at ed
        rw [Option.some.inj ed]
      rw [e, forD_cons] at o
      cases e1 : g d r with
      | ok r1 =>
        rw [e1] at o
        refine ⟨H0, F0, fp, F3, r, d, m.grow g3, rx, r1, e1, fun fp' σ' m' => ⟨H0, F0, fp', F3, r1, m', ?_⟩⟩
        have o' : OutS (gOf X) W k H0 F0 F3 D _ := OutS.same o g3.f
        simp only [into_ok, nx_seq] at o'
        cases e2 : gb r1 with
        | nx r2 => rw [e2] at o'; exact fun fp2 F2 σ2 H2 q m2 => ⟨hlt, fp2, F2, r2, (sF.trans g3.f).trans q, m2, o'.same q⟩
        | ct r2 => rw [e2] at o'; exact fun fp2 F2 σ2 H2 q m2 => ⟨hlt, fp2, F2, r2, (sF.trans g3.f).trans q, m2, o'.same q⟩
        | bk r2 => rw [e2] at o'; exact o'
        | rt d2 => rw [e2] at o'; exact o'
        | er x2 r2 => rw [e2] at o'; exact o'
        | bad => rw [e2] at o'; exact o'
      | er x2 => rw [e1] at o; exact o.elim
      | bad => rw [e1] at o; exact o.elim
    · have e : i = ds.length := by omega
      subst e
      rw [List.drop_length] at o
      exact .inl ⟨w.stops H (sF.trans m.sub), o fp F σ H (Same.refl _) m⟩⟩
/-- a while of at most so many turns -/
def whileD (c : Env → Res Bool) (b : Env → Oc) : Nat → Env → Oc
  | 0, _ => .bad
  | n + 1, r => lift (c r) r fun t => if t = true then (match b r with
    | .nx r' => whileD c b n r'
    | .ct r' => whileD c b n r'
    | .bk r' => .nx r'
    | o => o) else .nx r
theorem rs_while {c : Expr} {body : List Stmt} {pos : Pos} {f : Env → Res Bool} {gb : Env → Oc} (hp : PassesOwn (model X.prog X.w) X.A X.env X.xe) (hc : RT X W c f) (hb : RSs X W k body gb) (N : Env → Nat) :
    RS X W k (.While c body [] pos) (fun r => whileD f gb (N r) r) :=
  (ps_while hp hc hb).imp fun D σ H ⟨H0, F0, fp, F, r, m, o⟩ => by
    refine ⟨fun n σ H => ∃ fp F' r, Same F F' ∧ MS (gOf X) W.J H0 F0 fp F' σ H r ∧ OutS (gOf X) W k H0 F0 F' D (whileD f gb n r), ⟨N r, fp, F, r, Same.refl _, m, o⟩, ?_⟩
    rintro n σ H ⟨fp, F1, r, s, m, o⟩
    cases n with
    | zero => exact o.elim
    | succ n =>
      refine ⟨H0, F0, fp, F1, r, m, OutS.lift m (show OutS (gOf X) W k H0 F0 F1 D (lift (f r) r _) from o) fun F2 H2 t g o2 => ?_⟩
      cases t with
      | false => exact o2 fp F2 σ H2 (Same.refl _) (m.grow g)
      | true =>
        rw [if_pos rfl]
        rw [if_pos rfl] at o2
        refine ⟨fun σ' H' => ∃ fp F' r, Same F F' ∧ MS (gOf X) W.J H0 F0 fp F' σ' H' r ∧ OutS (gOf X) W k H0 F0 F' D (whileD f gb n r), fun σ' H' q => ⟨n, Nat.lt_succ_self _, q⟩, H0, F0, fp, F2, r, m.grow g, ?_⟩
        cases e2 : gb r with
        | nx r2 => rw [e2] at o2; exact fun fp2 F3 σ2 H3 q m2 => ⟨fp2, F3, r2, (s.trans g.f).trans q, m2, o2.same q⟩
        | ct r2 => rw [e2] at o2; exact fun fp2 F3 σ2 H3 q m2 => ⟨fp2, F3, r2, (s.trans g.f).trans q, m2, o2.same q⟩
        | bk r2 => rw [e2] at o2; exact o2
        | rt d2 => rw [e2] at o2; exact o2
        | er x2 r2 => rw [e2] at o2; exact o2
        | bad => rw [e2] at o2; exact o2
end
end Mir
namespace Mir
open PySem PySem.Spec PyProof.Rows L2
variable [Tn]
/-- what a call is to leave -/
def OutC (G : GC) (E : XK) {α : Type} (F H : Hp) (P : Hp → Hp → α → Prop) : Res α → Prop
  | .ok a => ∀ F' H', Grow F H F' H' → P F' H' a
  | .er e => ∀ cls dd F' H', Grow F H F' H' → ExcIs G F' cls dd e → E cls dd H'
  | .bad => False
/-- the promise of a def of worth g -/
def spM (G : GC) (k : Kd) (g : List D → Res D) : Sp := fun vs H Q E => ∃ F ds, Same F H ∧ Tt F H ∧ RepAll G F vs ds ∧ OutC G E F H (fun F' H' d => ∀ v, k.Rep G H F' H' v d → Q v H') (g ds)
/-- the promise of an __init__: it makes of the arguments the object -/
def spI (G : GC) (c : Nat) (g : List D → Res D) : Sp := fun vs H Q E => ∃ (x dx : Addr) (vs' : List V) (F H0 : Hp) (ds : List D), vs = .ref x :: vs' ∧ H x = some (.ins (G.ca c) dx []) ∧ Same H0 H ∧ H0 x = none ∧ Same F H0 ∧ Tt F H0 ∧ RepAll G F vs' ds ∧
  OutC G E F H0 (fun F' H' d => Rep G F' (.ref x) d → Q .non H') (g ds)
def startD (n : Nat) (ds : List D) : Env := ds.map .sh ++ List.replicate (n - ds.length) .un
/-- a body's worth -/
def runD (p n : Nat) (g : Env → Oc) (ds : List D) : Res D := if ds.length = p then (match g (startD n ds) with
  | .rt d => .ok d
  | .nx _ => .ok .non
  | .er e _ => .er e
  | _ => .bad) else .bad
def runO (p n : Nat) (g : Env → Oc) (ds : List D) : Res D := if ds.length = p then (match g (startD n ds) with
  | .rt d => .ok d
  | .er e _ => .er e
  | _ => .bad) else .bad
def startI (n c : Nat) (ds : List D) : Env := .ow .flat (.obj c []) :: startD (n - 1) ds
def selfR (r : Env) : Res D := match r[0]? with
  | some (Slot.sh d) => .ok d
  | some (Slot.ow _ d) => .ok d
  | _ => .bad
/-- the worth of an __init__ -/
def runI (p n c : Nat) (g : Env → Oc) (ds : List D) : Res D := if ds.length = p then (match g (startI n c ds) with
  | .nx r => selfR r
  | .er e _ => .er e
  | _ => .bad) else .bad
section
variable {G : GC}
theorem startD_un {n : Nat} {ds : List D} {i : Nat} {s : Slot} (h : (startD n ds)[i]? = some s) : (∃ d, ds[i]? = some d ∧ s = .sh d) ∨ s = .un := by
  unfold startD at h
  by_cases hi : i < ds.length
  · rw [List.getElem?_append_left (by simpa using hi), List.getElem?_map] at h
    cases e : ds[i]? with
    | none => rw [e] at h; cases h
    | some d => rw [e] at h; cases h; exact .inl ⟨d, rfl, rfl⟩
  · rw [List.getElem?_append_right (by simpa using hi), List.getElem?_replicate] at h
    split at h
    · cases h; exact .inr rfl
    · cases h
theorem start_at {N : List Str} {vs : List V} {i : Nat} {v : V} (h : vs[i]? = some v) : (L2.start N vs)[i]? = some (some v) := by
  have hi : i < vs.length := (List.getElem?_eq_some_iff.mp h).1
  unfold L2.start
  rw [List.getElem?_append_left (by simpa using hi), List.getElem?_map, h]
  rfl
theorem ms_start {F H : Hp} {N : List Str} {vs : List V} {ds : List D} (s : Same F H) (tt : Tt F H) (r : RepAll G F vs ds) : MS G (fun _ => True) H F (fun _ => []) F (L2.start N vs) H (startD N.length ds) where
  jo := trivial
  s0 := Stays.refl
  f0 := Same.refl _
  sub := s
  new := fun _ _ e => .inl e
  len := by
    unfold L2.start startD
    have := r.length
    simp only [List.length_append, List.length_map, List.length_replicate]
    omega
  sh := fun i d e => by
    rcases startD_un e with ⟨d', e1, e2⟩ | e2
    · cases e2
      obtain ⟨v, h1, h2⟩ := r.get e1
      exact ⟨v, start_at h1, h2⟩
    · cases e2
  ow := fun i s d e => by
    rcases startD_un e with ⟨_, _, z⟩ | z <;> cases z
  t0 := tt
  ap := fun i j s t d e _ h1 _ => by
    rcases startD_un h1 with ⟨_, _, z⟩ | z <;> cases z
end
section
variable {P : Program} {w : World} {K : PySem.W.Frag} {mg : Str → Option Value} {base : Heap}
abbrev WD (E : XK) : Wi := ⟨fun cls d _ H => E cls d H, fun _ => True⟩
theorem spM_len {G : GC} {k : Kd} {n : Nat} {g : List D → Res D} (hg : ∀ ds, ds.length ≠ n → g ds = .bad) : ∀ vs H Q E, spM G k g vs H Q E → vs.length = n := fun vs H Q E ⟨F, ds, _, _, r, o⟩ => by
  by_cases h : ds.length = n
  · rw [r.length]; exact h
  · rw [hg ds h] at o; exact o.elim
/-- A DEF by its body (what it gives is shared) -/
theorem fn_ok {x qual : Str} {st : Stmt} {f : Addr} {fd : FuncData} {N ps : List Str} {k : Nat} {g : Env → Oc} (F : Fun K x qual st f fd) (S : FnScope N ps (defScope st))
    (hb : ∀ (cdv : Value) (A : Around) (outer : List PySem.Env) (s : Shared) (H : Hp) (E : XK), Room k (A.deeper (envOfC qual (defScope st) s.heap.objs.size f cdv)) →
      RSs (cxOf (L2.CX P w) P w K mg base N qual (defScope st) f cdv A outer s H E) (WD E) .S (defBody st) g) : FnOk P w K mg base (L2.CX P w) (k + 1) f fd ps (spM ⟨P, w, K, mg⟩ .S (runD ps.length N.length g)) := by
  refine F.okX S (spM_len fun ds h => if_neg h) fun cdv A outer s H vs Q E hr ⟨F0, ds, s0, tt, r, o⟩ => ⟨_, hb cdv A outer s H E hr, H, F0, _, F0, _, ms_start s0 tt r, ?_⟩
  unfold runD at o
  split at o
  case isFalse => exact o.elim
  cases e : g (startD N.length ds) with
  | nx r' =>
    rw [e] at o
    exact fun fp F' σ' H' _ m => o F' H' m.g0 .non .non
  | rt d =>
    rw [e] at o
    exact fun F' H' v _ gr kr => o F' H' gr v kr
  | er x r' =>
    rw [e] at o
    exact fun fp F' σ' H' cls dd _ m ex => o cls dd F' H' m.g0 ex
  | bk r' => rw [e] at o; exact o.elim
  | ct r' => rw [e] at o; exact o.elim
  | bad => rw [e] at o; exact o.elim
/-- .. what it gives is the caller's own -/
theorem fn_okO {x qual : Str} {st : Stmt} {f : Addr} {fd : FuncData} {N ps : List Str} {k : Nat} {g : Env → Oc} {sp : Shape} (F : Fun K x qual st f fd) (S : FnScope N ps (defScope st))
    (hb : ∀ (cdv : Value) (A : Around) (outer : List PySem.Env) (s : Shared) (H : Hp) (E : XK), Room k (A.deeper (envOfC qual (defScope st) s.heap.objs.size f cdv)) →
      RSs (cxOf (L2.CX P w) P w K mg base N qual (defScope st) f cdv A outer s H E) (WD E) (.O sp) (defBody st) g) : FnOk P w K mg base (L2.CX P w) (k + 1) f fd ps (spM ⟨P, w, K, mg⟩ (.O sp) (runO ps.length N.length g)) := by
  refine F.okX S (spM_len fun ds h => if_neg h) fun cdv A outer s H vs Q E hr ⟨F0, ds, s0, tt, r, o⟩ => ⟨_, hb cdv A outer s H E hr, H, F0, _, F0, _, ms_start s0 tt r, ?_⟩
  unfold runO at o
  split at o
  case isFalse => exact o.elim
  cases e : g (startD N.length ds) with
  | rt d =>
    rw [e] at o
    exact fun F' H' v _ gr kr => o F' H' gr v kr
  | er x r' =>
    rw [e] at o
    exact fun fp F' σ' H' cls dd _ m ex => o cls dd F' H' m.g0 ex
  | nx r' => rw [e] at o; exact o.elim
  | bk r' => rw [e] at o; exact o.elim
  | ct r' => rw [e] at o; exact o.elim
  | bad => rw [e] at o; exact o.elim
end
/-- a def of the module by its name -/
structure FnM (P : Program) (w : World) (K : PySem.W.Frag) (mg : Str → Option Value) (base : Heap) (j : Nat) (x : Str) (k : Kd) (g : List D → Res D) : Prop where
  ex : ∃ (f : Addr) (fd : FuncData) (ps : List Str), FnOk P w K mg base (L2.CX P w) j f fd ps (spM ⟨P, w, K, mg⟩ k g) ∧ mg x = some (.ref f) ∧ PySem.W.keepIn K (.ref f) = true ∧ Binds K fd ps []
/-- a method m of the class c -/
structure MtM (P : Program) (w : World) (K : PySem.W.Frag) (mg : Str → Option Value) (base : Heap) (j : Nat) (m : Str) (c : Nat) (k : Kd) (g : List D → Res D) : Prop where
  ex : ∃ (f : Addr) (fd : FuncData) (ps : List Str), FnOk P w K mg base (L2.CX P w) j f fd ps (spM ⟨P, w, K, mg⟩ k g) ∧ Meth K ((⟨P, w, K, mg⟩ : GC).ca c) m f ∧ Binds K fd ps []
  cl : Cls K ((⟨P, w, K, mg⟩ : GC).ca c)
  no : m ∉ cflds c
/-- the class c is made by its __init__ -/
structure MkM (P : Program) (w : World) (K : PySem.W.Frag) (mg : Str → Option Value) (base : Heap) (j : Nat) (c : Nat) (g : List D → Res D) : Prop where
  ex : ∃ (f : Addr) (fd : FuncData) (ps : List Str), FnOk P w K mg base (L2.CX P w) j f fd ps (spI ⟨P, w, K, mg⟩ c g) ∧ Mk K ((⟨P, w, K, mg⟩ : GC).ca c) f ∧ mg (cname c) = some (.ref ((⟨P, w, K, mg⟩ : GC).ca c)) ∧ Binds K fd ps []
/-- an attribute f, by classes: its place -/
structure FldM (K : PySem.W.Frag) (ca : Nat → Addr) (f : Str) (p : Nat → Option Nat) : Prop where
  h : ∀ c i, p c = some i → (cflds c)[i]? = some f ∧ (cflds c).Nodup ∧ Cls K (ca c) ∧ NoAttr K (ca c) f
theorem lookup_zip {f : Str} : ∀ {l : List Str} {ws : List V} {i : Nat} {v : V}, l.Nodup → l[i]? = some f → ws[i]? = some v → (l.zip ws).lookup f = some v
  | [], _, _, _, _, h, _ => by simp at h
  | _ :: _, [], _, _, _, _, h => by simp at h
  | a :: l, w :: ws, 0, v, _, h, q => by
    simp at h q
    subst h q
    simp [List.lookup]
  | a :: l, w :: ws, i + 1, v, n, h, q => by
    have hm : f ∈ l := List.mem_of_getElem? (by simpa using h)
    have ne : f ≠ a := fun e => (List.nodup_cons.mp n).1 (e ▸ hm)
    have e : (f == a) = false := by simpa using ne
    rw [List.zip_cons_cons, List.lookup_cons, e]
    exact lookup_zip (i := i) (List.nodup_cons.mp n).2 (by simpa using h) (by simpa using q)
theorem lookup_zip_none {f : Str} : ∀ {l : List Str} {ws : List V}, f ∉ l → (l.zip ws).lookup f = none
  | [], _, _ => rfl
  | _ :: _, [], _ => rfl
  | a :: l, w :: ws, h => by
    have ne : f ≠ a := fun e => h (e ▸ List.mem_cons_self)
    have e : (f == a) = false := by simpa using ne
    rw [List.zip_cons_cons, List.lookup_cons, e]
    exact lookup_zip_none fun q => h (List.mem_cons_of_mem _ q)
/-- an attribute of an object -/
def fldD (p : Nat → Option Nat) (d : D) : Res D := match d with
  | .obj c vs => match p c with
    | some i => match vs[i]? with
      | some d => .ok d
      | none => .bad
    | none => .bad
  | _ => .bad
/-- the method of an object -/
def mthD (mt : Nat → Option (List D → Res D)) (d : D) : Res (List D → Res D) := match d with
  | .obj c vs => match mt c with
    | some g => .ok fun ds => g (.obj c vs :: ds)
    | none => .bad
  | _ => .bad
theorem fldD_er {p : Nat → Option Nat} {d e : D} (h : fldD p d = .er e) : False := by
  unfold fldD at h
  split at h
  · split at h
    · split at h <;> cases h
    · cases h
  · cases h
theorem fldD_ok {p : Nat → Option Nat} {d e : D} (h : fldD p d = .ok e) : ∃ c vs i, d = .obj c vs ∧ p c = some i ∧ vs[i]? = some e := by
  unfold fldD at h
  split at h
  · rename_i c vs
    split at h
    · rename_i i hp
      split at h
      · rename_i d' hv
        cases h
        exact ⟨c, vs, i, rfl, hp, hv⟩
      · cases h
    · cases h
  · cases h
theorem mthD_er {mt : Nat → Option (List D → Res D)} {d e : D} (h : mthD mt d = .er e) : False := by
  unfold mthD at h
  split at h
  · split at h <;> cases h
  · cases h
theorem mthD_ok {mt : Nat → Option (List D → Res D)} {d : D} {g' : List D → Res D} (h : mthD mt d = .ok g') : ∃ c vs g, d = .obj c vs ∧ mt c = some g ∧ g' = fun ds => g (.obj c vs :: ds) := by
  unfold mthD at h
  split at h
  · rename_i c vs
    split at h
    · rename_i g hm
      cases h
      exact ⟨c, vs, g, rfl, hm, rfl⟩
    · cases h
  · cases h
section
variable {X : Cx} {W : Wi} {k : Kd} {e o : Expr} {es : List Expr} {p pos apos : Pos}
theorem OutC.of {G : GC} {W : Wi} {σ : L2.St} {F H : Hp} {α : Type} {P : Hp → Hp → α → Prop} {x : Res α} (h : Out G W σ F H P x) : OutC G (WE W.w σ) F H P x := by
  cases x <;> exact h
theorem spM_of {G : GC} {W : Wi} {σ : L2.St} {F H1 H : Hp} {g : List D → Res D} {vs : List V} {ds : List D} {Q : VK} (s : Same F H) (tt : Tt F H) (hs : Fre H1 H) (r : RepAll G F vs ds)
    (o : Out G W σ F H (fun F' H' d => ∀ v, k.Rep G H1 F' H' v d → Q v H') (g ds)) : spM G k g vs H Q (WE W.w σ) :=
  ⟨F, ds, s, tt, r, OutC.of (o.imp fun F' H' d _ q v kv => q v (kv.later hs))⟩
/-- f(e, ..) -/
theorem re_call {j : Nat} {x : Str} {g : List D → Res D} {fa : Env → Res (List D)} (M : FnM X.prog X.w X.K X.mg X.base j x k g) (hr : Room j X.A) (tk : Takes X W.w) (ha : RA X W (e :: es) fa) (hg : Gl X x := by rfl)
    (hdb : (x == ("__debug__" : Str)) = false := by decide) (he : starEach (e :: es) X.env = (false, eval e X.env) :: starEach es X.env := by rfl) (hpl : (backTo pos (starEach es X.env)).any (·.1) = false := by rfl) :
    RE X W k (.Call (.Name x p) (e :: es) [] pos) (fun r => fa r >>= g) := by
  obtain ⟨f, fd, ps, F, hm, hk, hb⟩ := M.ex
  refine ⟨fun pins s σ H Q I ⟨H0, F0, fp, F1, r, m, o⟩ => ?_⟩
  refine wpAny_Call_Name_kw (ld_glob I hg hm ?_ hdb)
  have hw : tA (gOf X) W fa σ H fun vs H1 => spM (gOf X) k g vs H1 Q (WE W.w σ) := ⟨H0, F0, fp, F1, r, m, o.bind fun F2 H2 ds gr o2 vs rv => spM_of gr.sub (gr.h.tt m.tt) gr.h.fre rv o2⟩
  refine PySem.W.callWith_K (h₀ := X.base) I.ok.mod.kin hk (thn (ha.run pos pins s σ H _ I hw) fun us s1 ⟨vs, H1, I1, r1, q⟩ => ⟨I1.kIn, ?_⟩) he hpl
  exact run_fnS F hr hb (passAt tk σ) I1 r1 q
/-- o.f -/
theorem re_fld {f : Str} {pt : Nat → Option Nat} {fo : Env → Res D} (M : FldM X.K (gOf X).ca f pt) (ho : RE X W .S o fo) (hb : attributeBase o f X.env (eval o X.env) = eval o X.env := by rfl) : RE X W .S (.Attribute o f pos) (fun r => fo r >>= fldD pt) :=
  (pe_fld ho hb).imp fun σ H Q ⟨H0, F0, fp, F, r, m, oo⟩ => ⟨H0, F0, fp, F, r, m, oo.bind fun F' H' d gr o2 v kv => by
    cases ef : fldD pt d with
    | er x => exact (fldD_er ef).elim
    | bad => rw [ef] at o2; exact o2.elim
    | ok d' =>
      obtain ⟨c, vs, i, rfl, hp, hv⟩ := fldD_ok ef
      rw [ef] at o2
      have kv' : Rep (gOf X) F' v (.obj c vs) := kv
      cases kv' with
      | @obj a dx _ ws _ ha hz ra =>
        obtain ⟨h1, h2, h3, h4⟩ := M.h c i hp
        obtain ⟨w, hw, rw'⟩ := ra.get hv
        exact ⟨a, _, dx, _, w, rfl, gr.sub _ _ ha, h3, h4, lookup_zip h2 h1 hw, o2 F' H' (Grow.refl gr.sub) w rw'⟩⟩
/-- o.m(e, ..) -/
theorem re_meth {j : Nat} {mn : Str} {mt : Nat → Option (List D → Res D)} {fo : Env → Res D} {fa : Env → Res (List D)} {pl : Sem Bool} (M : ∀ c g, mt c = some g → MtM X.prog X.w X.K X.mg X.base j mn c k g) (hr : Room j X.A) (tk : Takes X W.w) (ho : RE X W .S o fo) (ha : RA X W (e :: es) fa)
    (he : starEach (e :: es) X.env = (false, eval e X.env) :: starEach es X.env := by rfl) (hpl : (backTo pos (starEach es X.env)).any (·.1) = false := by rfl)
    (ht : eval (.Call (.Attribute o mn apos) (e :: es) [] pos) X.env = (do
      let ov ← eval o X.env
      standAt apos.atName
      let (f, first) ← holding [ov] (getMethod ov mn pl)
      callWith pos f first (backTo pos (starEach (e :: es) X.env)) (backToKw pos (keywordEach [] X.env))) := by rfl) :
    RE X W k (.Call (.Attribute o mn apos) (e :: es) [] pos) (fun r => fo r >>= fun d => mthD mt d >>= fun g => fa r >>= g) := by
  refine ⟨fun pins s σ H Q I ⟨H0, F0, fp, F, r, m, oo⟩ => methcall_of ho I ⟨H0, F0, fp, F, r, m, oo.bind fun F1 H1 d gr o2 v kv => ?_⟩ ht⟩
  cases em : mthD mt d with
  | er x => exact (mthD_er em).elim
  | bad => rw [em] at o2; exact o2.elim
  | ok g' =>
    obtain ⟨c, vs, g, rfl, hc, rfl⟩ := mthD_ok em
    rw [em] at o2
    have kv' : Rep (gOf X) F1 v (.obj c vs) := kv
    obtain ⟨⟨f, fd, ps, FO, hmt, hb⟩, hcl, hno⟩ := M c g hc
    cases hkv : kv' with
    | @obj a dx _ ws _ hat hz ra =>
      refine ⟨a, _, dx, _, f, rfl, gr.sub _ _ hat, hcl, hmt, lookup_zip_none hno, fun s1 I1 => ?_⟩
      have hw : tA (gOf X) W fa σ H1 fun us H2 => spM (gOf X) k g (.ref a :: us) H2 Q (WE W.w σ) := ⟨H0, F0, fp, F1, r, m.grow gr, Out.bind o2 fun F2 H2 ds gr2 o3 us ru =>
        spM_of gr2.sub (gr2.h.tt (gr.h.tt m.tt)) (gr.h.trans gr2.h).fre (.cons (kv'.mono gr2.f) ru) o3⟩
      refine PySem.W.callWith_K (first := [.ref a]) (h₀ := X.base) I1.ok.mod.kin hmt.kp (thn (ha.run pos pins s1 σ H1 _ I1 hw) fun us s2 ⟨vs2, H2, I2, r2, q2⟩ => ⟨I2.kIn, ?_⟩) he hpl
      exact run_fnS (us := .ref a :: us) (vs := .ref a :: vs2) FO hr hb (passAt tk σ) I2 (.cons rfl r2) q2
theorem re_meth0 {j : Nat} {mn : Str} {mt : Nat → Option (List D → Res D)} {fo : Env → Res D} {pl : Sem Bool} (M : ∀ c g, mt c = some g → MtM X.prog X.w X.K X.mg X.base j mn c k g) (hr : Room j X.A) (tk : Takes X W.w) (ho : RE X W .S o fo)
    (ht : eval (.Call (.Attribute o mn apos) [] [] pos) X.env = (do
      let ov ← eval o X.env
      standAt apos.atName
      let (f, first) ← holding [ov] (getMethod ov mn pl)
      callWith pos f first (backTo pos (starEach [] X.env)) (backToKw pos (keywordEach [] X.env))) := by rfl) :
    RE X W k (.Call (.Attribute o mn apos) [] [] pos) (fun r => fo r >>= fun d => mthD mt d >>= fun g => g []) := by
  refine ⟨fun pins s σ H Q I ⟨H0, F0, fp, F, r, m, oo⟩ => methcall_of ho I ⟨H0, F0, fp, F, r, m, oo.bind fun F1 H1 d gr o2 v kv => ?_⟩ ht⟩
  cases em : mthD mt d with
  | er x => exact (mthD_er em).elim
  | bad => rw [em] at o2; exact o2.elim
  | ok g' =>
    obtain ⟨c, vs, g, rfl, hc, rfl⟩ := mthD_ok em
    rw [em] at o2
    have kv' : Rep (gOf X) F1 v (.obj c vs) := kv
    obtain ⟨⟨f, fd, ps, FO, hmt, hb⟩, hcl, hno⟩ := M c g hc
    cases hkv : kv' with
    | @obj a dx _ ws _ hat hz ra =>
      refine ⟨a, _, dx, _, f, rfl, gr.sub _ _ hat, hcl, hmt, lookup_zip_none hno, fun s1 I1 => ?_⟩
      exact PySem.W.callWith_K0 (first := [.ref a]) I1.kIn hmt.kp (run_fnS (us := [.ref a]) (vs := [.ref a]) FO hr hb (passAt tk σ) I1 (.cons rfl .nil) (spM_of gr.sub (gr.h.tt m.tt) gr.h.fre (.cons kv' .nil) o2))
end
end Mir
namespace Mir
open PySem PySem.Spec PyProof.Rows L2
variable [Tn]
section
variable {X : Cx} {CX : CXT} {k : Nat} {f C : Addr} {fd : FuncData} {ps : List Str} {sp : Sp} {E : L2.St → XK}
/-- a new instance and its __init__, what is raised wished for at the names' values -/
theorem run_makeS {pins : List (Addr × Obj)} {σ : L2.St} {H : Hp} {s : Shared} {Q : VK} {us : List Value} {vs : List V} (M : Mk X.K C f) (F : FnOk X.prog X.w X.K X.mg X.base CX k f fd ps sp) (hr : Room (k + 1) X.A) (hb : Binds X.K fd ps []) (hx : PassesAt CX X σ (E σ)) (I : Inv X pins σ H s) (r : Vals vs us)
    (h : ∀ x dx, H x = none → H dx = none → dx ≠ x → sp (.ref x :: vs) (upd (upd H dx (.own x)) x (.ins C dx [])) (fun v H2 => v = .non ∧ Q (.ref x) H2) (E σ)) : wpAny (model X.prog X.w) X.A (call (.ref C) us) (EP X pins σ Q) X.xe s := by
  have n1 : H (s.heap.objs.size + 1) = none := I.hok.fresh (Nat.le_succ _)
  have n0 : H s.heap.objs.size = none := I.hok.fresh (Nat.le_refl _)
  have due := h _ _ n1 n0 (Nat.ne_of_lt (Nat.lt_succ_self _))
  have J := Inv.made (C := C) I
  have rr : Vals (V.ref (s.heap.objs.size + 1) :: vs) (Value.ref (s.heap.objs.size + 1) :: us) := .cons rfl r
  have hl : (Value.ref (s.heap.objs.size + 1) :: us).length = ps.length := (F.len _ _ _ _ due) ▸ rr.length.symm
  have bt := hb _ (Value.ref (s.heap.objs.size + 1) :: us) J.kIn (by rw [List.append_nil]; exact hl)
  rw [List.append_nil] at bt
  refine wpAny_call (make_map (f := f) I.kIn M.makes M.init (beq_iff_eq.mp M.fn) (codeAny_mono (F.run _ X.stack _ _ _ _ _ _ (E σ) (hr.make C us []) (J.env0.make C us []) bt rr due) fun res s' q => ?_))
  match res, q with
  | .error e, q => exact hx pins _ _ e s' J q
  | .ok (.ret u), q =>
    obtain ⟨v, H', I', rv, ev, q'⟩ := J.after q
    subst ev
    exact ⟨rv, ⟨V.ref (s.heap.objs.size + 1), H', I', rfl, q'⟩⟩
  | .ok .next, q => exact q.elim
  | .ok .brk, q => exact q.elim
  | .ok .cont, q => exact q.elim
end
section
variable {X : Cx} {W : Wi} {e : Expr} {es : List Expr} {p pos : Pos}
theorem spI_of {G : GC} {W : Wi} {σ : L2.St} {F H1 H : Hp} {c : Nat} {g : List D → Res D} {vs : List V} {ds : List D} {Q : VK} (s : Same F H) (tt : Tt F H) (r : RepAll G F vs ds)
    (o : Out G W σ F H (fun F' H' d => ∀ v, Kd.S.Rep G H1 F' H' v d → Q v H') (g ds)) : ∀ x dx, H x = none → H dx = none → dx ≠ x →
      spI G c g (.ref x :: vs) (upd (upd H dx (.own x)) x (.ins (G.ca c) dx [])) (fun v H2 => v = .non ∧ Q (.ref x) H2) (WE W.w σ) := fun x dx nx ndx ne =>
  ⟨x, dx, vs, F, H, ds, rfl, upd_same, fun b o e => by rw [upd_ne (ne_of_none e nx), upd_ne (ne_of_none e ndx)]; exact e, nx, s, tt, r, OutC.of (o.imp fun F' H' d _ q rv => ⟨rfl, q (.ref x) rv⟩)⟩
/-- C(e, ..) -/
theorem re_make {j c : Nat} {x : Str} {g : List D → Res D} {fa : Env → Res (List D)} (M : MkM X.prog X.w X.K X.mg X.base j c g) (hr : Room (j + 1) X.A) (tk : Takes X W.w) (ha : RA X W (e :: es) fa) (hx : x = cname c := by rfl) (hg : Gl X x := by rfl)
    (hdb : (x == ("__debug__" : Str)) = false := by decide) (he : starEach (e :: es) X.env = (false, eval e X.env) :: starEach es X.env := by rfl) (hpl : (backTo pos (starEach es X.env)).any (·.1) = false := by rfl) :
    RE X W .S (.Call (.Name x p) (e :: es) [] pos) (fun r => fa r >>= g) := by
  subst hx
  obtain ⟨f, fd, ps, F, hmk, hm, hb⟩ := M.ex
  refine ⟨fun pins s σ H Q I ⟨H0, F0, fp, F1, r, m, o⟩ => ?_⟩
  refine wpAny_Call_Name_kw (ld_glob I hg hm ?_ hdb)
  have hw : tA (gOf X) W fa σ H fun vs H1 => ∀ x dx, H1 x = none → H1 dx = none → dx ≠ x → spI (gOf X) c g (.ref x :: vs) (upd (upd H1 dx (.own x)) x (.ins ((gOf X).ca c) dx [])) (fun v H2 => v = .non ∧ Q (.ref x) H2) (WE W.w σ) :=
    ⟨H0, F0, fp, F1, r, m, o.bind fun F2 H2 ds gr o2 vs rv => spI_of gr.sub (gr.h.tt m.tt) rv o2⟩
  refine PySem.W.callWith_K (h₀ := X.base) I.ok.mod.kin hmk.kp (thn (ha.run pos pins s σ H _ I hw) fun us s1 ⟨vs, H1, I1, r1, q⟩ => ⟨I1.kIn, ?_⟩) he hpl
  exact run_makeS hmk F hr hb (passAt tk σ) I1 r1 q
end
section
variable {G : GC}
theorem spI_len {c n : Nat} {g : List D → Res D} (hg : ∀ ds, ds.length ≠ n → g ds = .bad) : ∀ vs H Q E, spI G c g vs H Q E → vs.length = n + 1 := fun vs H Q E ⟨x, dx, vs', F, H0, ds, ev, _, _, _, _, _, r, o⟩ => by
  by_cases h : ds.length = n
  · rw [ev, List.length_cons, r.length, h]
  · rw [hg ds h] at o; exact o.elim
theorem ms_startI {c : Nat} {x dx : Addr} {F H0 H : Hp} {N : List Str} {vs : List V} {ds : List D} (hx : H x = some (.ins (G.ca c) dx [])) (s0 : Same H0 H) (nx : H0 x = none) (s : Same F H0) (tt : Tt F H0) (r : RepAll G F vs ds) (hN : 0 < N.length) :
    MS G (fun σ => σ[0]? = some (some (.ref x))) H0 F (fun _ => [x]) F (L2.start N (.ref x :: vs)) H (startI N.length c ds) where
  jo := start_at rfl
  s0 := .of s0 (Same.refl _) (fun _ _ e => .inl e)
  f0 := Same.refl _
  sub := s.trans s0
  new := fun _ _ e => .inl e
  len := by
    unfold L2.start startI startD
    have := r.length
    simp only [List.length_append, List.length_map, List.length_replicate, List.length_cons]
    omega
  sh := fun i d e => by
    cases i with
    | zero => cases e
    | succ i =>
      rcases startD_un (show (startD (N.length - 1) ds)[i]? = some (.sh d) from e) with ⟨d', e1, e2⟩ | e2
      · cases e2
        obtain ⟨v, h1, h2⟩ := r.get e1
        exact ⟨v, start_at (by simpa using h1), h2⟩
      · cases e2
  ow := fun i t d e => by
    cases i with
    | zero =>
      cases e
      refine ⟨⟨.ref x, start_at rfl, ?_⟩, fun a ha => by rw [List.mem_singleton.mp ha]; exact nx⟩
      refine Own.obj (ws := []) (dx := dx) rfl (by rw [List.zip_nil_right]; exact hx) (s.free nx) (Nat.zero_le _) .nil (by simp)
    | succ i =>
      rcases startD_un (show (startD (N.length - 1) ds)[i]? = some (.ow t d) from e) with ⟨_, _, z⟩ | z <;> cases z
  ap := fun i j t u d e ne h1 h2 => by
    have z : ∀ {i : Nat} {t : Shape} {d : D}, (startI N.length c ds)[i]? = some (.ow t d) → i = 0 := fun {i t d} h => by
      cases i with
      | zero => rfl
      | succ i =>
        rcases startD_un (show (startD (N.length - 1) ds)[i]? = some (.ow t d) from h) with ⟨_, _, z⟩ | z <;> cases z
    exact absurd ((z h1).trans (z h2).symm) ne
  t0 := tt
end
section
variable {P : Program} {w : World} {K : PySem.W.Frag} {mg : Str → Option Value} {base : Heap}
abbrev WI (x : Addr) (E : XK) : Wi := ⟨fun cls d _ H => E cls d H, fun σ => σ[0]? = some (some (.ref x))⟩
theorem fn_okI {qual : Str} {st : Stmt} {f : Addr} {fd : FuncData} {N ps : List Str} {k c : Nat} {g : Env → Oc} (F : Fun K "__init__" qual st f fd) (S : FnScope N ps (defScope st)) (hps : 0 < ps.length)
    (hb : ∀ (cdv : Value) (A : Around) (outer : List PySem.Env) (s : Shared) (H : Hp) (E : XK) (x : Addr), Room k (A.deeper (envOfC qual (defScope st) s.heap.objs.size f cdv)) →
      RSs (cxOf (L2.CX P w) P w K mg base N qual (defScope st) f cdv A outer s H E) (WI x E) .S (defBody st) g) : FnOk P w K mg base (L2.CX P w) (k + 1) f fd ps (spI ⟨P, w, K, mg⟩ c (runI (ps.length - 1) N.length c g)) := by
  have hNl : ps.length ≤ N.length := by have := congrArg List.length S.pre; rw [List.length_take] at this; omega
  refine F.okX S (fun vs H Q E h => (spI_len (n := ps.length - 1) (fun ds h => if_neg h) vs H Q E h).trans (by omega)) fun cdv A outer s H vs Q E hr ⟨x, dx, vs', F1, H0, ds, ev, hx, s0, nx, sF, tt0, r, o⟩ => ?_
  subst ev
  refine ⟨_, hb cdv A outer s H E x hr, H0, F1, _, F1, _, ms_startI hx s0 nx sF tt0 r (by omega), ?_⟩
  unfold runI at o
  split at o
  case isFalse => exact o.elim
  cases e : g (startI N.length c ds) with
  | rt d => rw [e] at o; exact o.elim
  | er y r' =>
    rw [e] at o
    exact fun fp F' σ' H' cls dd _ m ex => o cls dd F' H' m.g0 ex
  | nx r' =>
    rw [e] at o
    intro fp F' σ' H' _ m
    have o' : OutC _ E F1 H0 _ (selfR r') := o
    have j0 : σ'[0]? = some (some (.ref x)) := m.jo
    cases e2 : selfR r' with
    | er y => unfold selfR at e2; split at e2 <;> cases e2
    | bad => rw [e2] at o'; exact o'.elim
    | ok d =>
      rw [e2] at o'
      obtain ⟨F2, _, m2⟩ := m.freeze 0
      have hs : (freeze 0 r')[0]? = some (.sh d) := by
        unfold selfR at e2
        split at e2
        · rename_i d' hd
          cases e2
          unfold freeze
          rw [hd]
          exact hd
        · rename_i t d' hd
          cases e2
          unfold freeze
          rw [hd]
          exact List.getElem?_set_self (List.getElem?_eq_some_iff.mp hd).1
        · cases e2
      obtain ⟨v, hv, rv⟩ := m2.sh 0 d hs
      rw [j0] at hv
      cases hv
      exact o' F2 H' m2.g0 rv
  | bk r' => rw [e] at o; exact o.elim
  | ct r' => rw [e] at o; exact o.elim
  | bad => rw [e] at o; exact o.elim
end
section
variable {G : GC} {F H F' H' : Hp}
theorem OwnAll.snoc {f f' : Nat → Shape} {s : Shape} {v : V} {d : D} {B : List Addr} (q : Own G F H s v d B) : ∀ {n : Nat} {vs : List V} {ds : List D} {A : List Addr}, OwnAll G F H f n vs ds A → (∀ j, n ≤ j → j < n + vs.length → f' j = f j) → f' (n + vs.length) = s → (∀ a ∈ A, a ∉ B) →
    OwnAll G F H f' n (vs ++ [v]) (ds ++ [d]) (A ++ B)
  | n, [], _, _, .nil, _, h2, _ => by
    have z : OwnAll G F H f' n [v] [d] (B ++ []) := .cons (by rw [show f' n = s from h2]; exact q) .nil (fun _ _ h => nomatch h)
    rw [List.append_nil] at z
    exact z
  | n, v' :: vs, d' :: ds, _, .cons (A := A1) (B := A2) r t x, h1, h2, h3 => by
    rw [List.append_assoc]
    refine .cons (by rw [h1 n (Nat.le_refl _) (by simp)]; exact r) (OwnAll.snoc q t (fun j a b => h1 j (by omega) (by simp only [List.length_cons]; omega)) (by rw [← h2]; congr 1; simp only [List.length_cons]; omega) fun a ha => h3 a (List.mem_append_right _ ha)) fun a ha hb => ?_
    rcases List.mem_append.mp hb with z | z
    · exact x a ha z
    · exact h3 a (List.mem_append_left _ ha) z
theorem OwnAll.length {f : Nat → Shape} : ∀ {n : Nat} {vs : List V} {ds : List D} {A : List Addr}, OwnAll G F H f n vs ds A → vs.length = ds.length
  | _, _, _, _, .nil => rfl
  | _, _, _, _, .cons _ t _ => congrArg (· + 1) (OwnAll.length t)
theorem Keep.upd {A : List Addr} {a : Addr} {o : HO} (h : a ∉ A) : Keep A F H F (upd H a o) := ⟨fun b hb u e => by rw [upd_ne (fun z => h (by rw [← z]; exact hb))]; exact e, Same.refl _, fun _ _ z => z⟩
theorem putF_zip {f : Str} {y : V} : ∀ {l : List Str} {ws : List V}, l.Nodup → l[ws.length]? = some f → putF f y (l.zip ws) = l.zip (ws ++ [y])
  | [], ws, _, h => by simp at h
  | a :: l, [], _, h => by
    simp at h
    subst h
    show [(a, y)] = _
    rw [List.nil_append, List.zip_cons_cons, List.zip_nil_right]
  | a :: l, w :: ws, n, h => by
    have h' : l[ws.length]? = some f := by simpa using h
    have hm : f ∈ l := List.mem_of_getElem? h'
    have ne : ¬ a = f := fun e => (List.nodup_cons.mp n).1 (e ▸ hm)
    rw [List.cons_append, List.zip_cons_cons, List.zip_cons_cons, ← putF_zip (List.nodup_cons.mp n).2 h']
    show (if a = f then _ else _) = _
    rw [if_neg ne]
/-- an owned thing is written: the state behind -/
theorem MS.write {J : L2.St → Prop} {H0 F0 : Hp} {fp : Nat → List Addr} {σ : L2.St} {r : Env} (m : MS G J H0 F0 fp F σ H r) {i : Nat} {s s' : Shape} {d d' : D} {v : V} {a : Addr} {o : HO} {A : List Addr} (hi : r[i]? = some (.ow s d)) (hv : σ[i]? = some (some v)) (ha : a ∈ fp i)
    (q : Own G F (upd H a o) s' v d' A) (hA : ∀ b ∈ A, b ∈ fp i ∨ (H b = none ∨ (H0 b = none ∧ ∀ j, j ≠ i → ∀ t e, r[j]? = some (.ow t e) → b ∉ fp j))) : ∃ fp', MS G J H0 F0 fp' F σ (upd H a o) (r.set i (.ow s' d')) := by
  have hil : i < r.length := (List.getElem?_eq_some_iff.mp hi).1
  obtain ⟨⟨v0, hv0, o0⟩, hn⟩ := m.ow i s d hi
  have h0 : H0 a = none := hn a ha
  have f0 : F a = none := (o0.there a (by assumption)).1
  have notA : ∀ j t e, j ≠ i → r[j]? = some (.ow t e) → a ∉ fp j := fun j t e ne h z => m.ap i j s t d e (Ne.symm ne) hi h a ha z
  refine ⟨fun j => if j = i then A else fp j, m.jo, m.s0.upd h0, m.f0, fun b u e => ?_, m.new, by simpa using m.len, fun j e h => ?_, fun j t e h => ?_, fun j k t u e1 e2 ne h1 h2 b => ?_, m.t0⟩
  · rw [upd_ne (ne_of_none e f0)]; exact m.sub b u e
  · rcases get_set_slot h with ⟨_, x, _⟩ | ⟨ne, h⟩
    · cases x
    · exact m.sh j e h
  · rcases get_set_slot h with ⟨rfl, x, hl⟩ | ⟨ne, h⟩
    · cases x
      rw [if_pos rfl]
      refine ⟨⟨v, hv, q⟩, fun b hb => ?_⟩
      rcases hA b hb with z | z | z
      · exact hn b z
      · exact m.s0.free z
      · exact z.1
    · rw [if_neg (Ne.symm ne)]
      obtain ⟨⟨u, q1, q2⟩, q3⟩ := m.ow j t e h
      exact ⟨⟨u, q1, q2.keep (Keep.upd (notA j t e (Ne.symm ne) h))⟩, q3⟩
  · have other : ∀ j t e, j ≠ i → r[j]? = some (.ow t e) → ∀ b ∈ A, b ∉ fp j := fun j t e ne h b hb z => by
      rcases hA b hb with y | y | y
      · exact m.ap i j s t d e (Ne.symm ne) hi h b y z
      · obtain ⟨⟨_, _, o3⟩, _⟩ := m.ow j t e h
        obtain ⟨_, w, e3⟩ := o3.there b z
        rw [y] at e3
        cases e3
      · exact y.2 j ne t e h z
    rcases get_set_slot h1 with ⟨rfl, x, _⟩ | ⟨n1, h1⟩
    · rcases get_set_slot h2 with ⟨z, _, _⟩ | ⟨n2, h2⟩
      · exact absurd z ne
      · rw [if_pos rfl, if_neg (Ne.symm n2)]
        exact other k u e2 (Ne.symm n2) h2 b
    · rcases get_set_slot h2 with ⟨rfl, x, _⟩ | ⟨n2, h2⟩
      · rw [if_pos rfl, if_neg (Ne.symm n1)]
        exact fun hb hz => other j t e1 (Ne.symm n1) h1 b hz hb
      · rw [if_neg (Ne.symm n1), if_neg (Ne.symm n2)]
        exact m.ap j k t u e1 e2 ne h1 h2 b
end
/-- a class that may be made and read -/
structure ClM (K : PySem.W.Frag) (ca : Nat → Addr) (f : Str) (c : Nat) : Prop where
  cl : Cls K (ca c)
  no : NoAttr K (ca c) f
  nd : (cflds c).Nodup
/-- the n-th part is of the shape t -/
def Shape.setKid (s : Shape) (n : Nat) (t : Shape) : Shape := match t with
  | .sh => s
  | t => .parts ((List.range n).map s.kid ++ [t])
/-- the n-th part is none of one's own as yet -/
def Shape.fits (s : Shape) (n : Nat) : Bool := match s with
  | .parts l => decide (l.length ≤ n)
  | .opts _ => false
  | _ => true
theorem Shape.kid_fits {s : Shape} {n : Nat} (h : s.fits n = true) : s.kid n = .sh := by
  cases s with
  | parts l =>
    have h' : l.length ≤ n := of_decide_eq_true h
    show l.getD n .sh = .sh
    rw [List.getD_eq_getElem?_getD, List.getElem?_eq_none h']
    rfl
  | opts l => cases h
  | _ => rfl
theorem Shape.setKid_own {s : Shape} {n : Nat} {t : Shape} (h : s.own = true) : (s.setKid n t).own = true := by
  cases t with
  | sh => exact h
  | _ => rfl
theorem Shape.setKid_at {s : Shape} {n : Nat} {t : Shape} (h : s.fits n = true) : (s.setKid n t).kid n = t := by
  have e : ∀ t, Shape.kid (.parts ((List.range n).map s.kid ++ [t])) n = t := fun t => by
    show (_ ++ [t]).getD n .sh = t
    rw [List.getD_eq_getElem?_getD, List.getElem?_append_right (by simp)]
    simp
  cases t with
  | sh => exact Shape.kid_fits h
  | flat => exact e _
  | parts l => exact e _
  | opts l => exact e _
theorem Shape.setKid_lt {s : Shape} {n j : Nat} {t : Shape} (h : j < n) : (s.setKid n t).kid j = s.kid j := by
  have e : ∀ t, Shape.kid (.parts ((List.range n).map s.kid ++ [t])) j = s.kid j := fun t => by
    show (_ ++ [t]).getD j .sh = _
    rw [List.getD_eq_getElem?_getD, List.getElem?_append_left (by simpa using h), List.getElem?_map, List.getElem?_range h]
    rfl
  cases t with
  | sh => rfl
  | flat => exact e _
  | parts l => exact e _
  | opts l => exact e _
section
variable {X : Cx} {W : Wi} {k : Kd} {e : Expr} {f : Str} {pos p' ps : Pos} {fe : Env → Res D}
theorem re_shO {e : Expr} {f : Env → Res D} (h : RE X W .S e f) : RE X W (.O .sh) e f :=
  h.imp fun σ H Q ⟨H0, F0, fp, F, r, m, o⟩ => ⟨H0, F0, fp, F, r, m, o.imp fun F' H' d _ p v kv => p v ⟨[], .sh kv, fun _ z => nomatch z⟩⟩
/-- the next attribute of the object in slot i -/
def setF (i c : Nat) (f : Str) (s : Shape) (d : D) (r : Env) : Oc := match r[i]? with
  | some (.ow g (.obj c' vs)) => if c' = c ∧ (cflds c)[vs.length]? = some f ∧ g.own = true ∧ g.fits vs.length = true then .nx (r.set i (.ow (g.setKid vs.length s) (.obj c (vs ++ [d])))) else .bad
  | _ => .bad
theorem rs_fldO (i c : Nat) {s : Shape} {x : Str} (M : ClM X.K (gOf X).ca f c) (he : RE X W (.O s) e fe) (hN : X.N[i]? = some x := by rfl) (hv : Vis X.env.scope x := by first | exact Or.inl rfl | exact Or.inr (Or.inl rfl)) (hd : (x == ("__debug__" : Str)) = false := by decide)
    (hcd : (x == ("__classdict__" : Str)) = false := by decide) (hs : swapsWith e (some (.Attribute (.Name x ps) f p')) pos.line X.env = pure false := by rfl) :
    RS X W k (.Assign [.Attribute (.Name x ps) f p'] e pos) (fun r => lift (fe r) r fun d => setF i c f s d r) :=
  (ps_fld (pe_var hN hv hd hcd) he hs).imp fun D σ H ⟨H0, F0, fp, F, r, m, o⟩ => ⟨H0, F0, fp, F, r, m, o.lift m fun F' H' d gr o' v ⟨B, ob, nb⟩ => by
    unfold setF at o'
    split at o'
    · rename_i g c' vs hi
      split at o'
      · rename_i hc
        obtain ⟨rfl, hf, go, gf⟩ := hc
        have m' := m.grow gr
        obtain ⟨⟨w, hw, ow⟩, hn⟩ := m'.ow i _ _ hi
        have hff : fp i = fp i := rfl
        generalize hA : fp i = A at ow hn
        cases ow with
        | sh _ => cases go
        | @obj _ a dx _ ws _ A' _ ha fa hz oa na =>
          have hl := oa.length
          refine ⟨.ref a, hw, a, (gOf X).ca c', dx, _, rfl, ha, M.cl, M.no, ?_, ?_⟩
          · rw [List.length_zip]
            have : (cflds c').length ≤ 8 := by
              unfold cflds
              split <;> decide
            omega
          · rw [putF_zip M.nd (by rw [hl]; exact hf)]
            have ain : a ∈ fp i := by rw [hA]; exact List.mem_cons_self
            have aB : a ∉ B := fun z => by
              obtain ⟨⟨_, q1, q2⟩, _⟩ := m.ow i _ _ hi
              obtain ⟨_, u, e⟩ := q2.there a ain
              rw [nb a z] at e
              cases e
            have AB : ∀ b ∈ A', b ∉ B := fun b hb z => by
              obtain ⟨⟨_, q1, q2⟩, _⟩ := m.ow i _ _ hi
              obtain ⟨_, u, e⟩ := q2.there b (by rw [hA]; exact List.mem_cons_of_mem _ hb)
              rw [nb b z] at e
              cases e
            have q : Own (gOf X) F' (upd H' a (.ins ((gOf X).ca c') dx ((cflds c').zip (ws ++ [v])))) (g.setKid vs.length s) (.ref a) (.obj c' (vs ++ [d])) (a :: (A' ++ B)) := by
              refine .obj (Shape.setKid_own go) upd_same fa ?_ (OwnAll.snoc (f := g.kid) (ob.keep (Keep.upd aB)) (oa.keep (Keep.upd na)) (fun j _ hj => ?_) ?_ AB) fun z => (List.mem_append.mp z).elim na aB
              · rw [List.length_append]
                have := (List.getElem?_eq_some_iff.mp hf).1
                simp only [List.length_cons, List.length_nil]
                omega
              · exact Shape.setKid_lt (by omega)
              · rw [Nat.zero_add, hl]
                exact Shape.setKid_at gf
            obtain ⟨fp', m2⟩ := m'.write hi hw ain q fun b hb => by
              rcases List.mem_cons.mp hb with z | z
              · exact .inl (by rw [hA, z]; exact List.mem_cons_self)
              · rcases List.mem_append.mp z with z | z
                · exact .inl (by rw [hA]; exact List.mem_cons_of_mem _ z)
                · refine .inr (.inr ⟨m.s0.free (nb b z), fun j ne t e h y => ?_⟩)
                  obtain ⟨⟨_, _, q2⟩, _⟩ := m.ow j t e h
                  obtain ⟨_, u, e⟩ := q2.there b y
                  rw [nb b z] at e
                  cases e
            exact o' fp' F' σ _ (Same.refl _) m2
      · exact o'.elim
    · exact o'.elim⟩
/-- self.f = e, shared -/
theorem rs_fldS (i c : Nat) {x : Str} (M : ClM X.K (gOf X).ca f c) (he : RE X W .S e fe) (hN : X.N[i]? = some x := by rfl) (hv : Vis X.env.scope x := by first | exact Or.inl rfl | exact Or.inr (Or.inl rfl)) (hd : (x == ("__debug__" : Str)) = false := by decide)
    (hcd : (x == ("__classdict__" : Str)) = false := by decide) (hs : swapsWith e (some (.Attribute (.Name x ps) f p')) pos.line X.env = pure false := by rfl) :
    RS X W k (.Assign [.Attribute (.Name x ps) f p'] e pos) (fun r => lift (fe r) r fun d => setF i c f .sh d r) :=
  rs_fldO i c M (re_shO he) hN hv hd hcd hs
end
end Mir
namespace Mir
open PySem PySem.Spec PyProof.Rows L2
variable [Tn]
abbrev veT : List Value := [.type "ValueError", .type "Exception", .type "BaseException", .type "object"]
/-- an own error class without own __init__ -/
structure ExM0 (K : PySem.W.Frag) (mg : Str → Option Value) (C : Addr) (c : Nat) : Prop where
  gC : mg (cname c) = some (.ref C)
  ex : PySem.W.excIn K C veT "ValueError.__new__" = true
  kC : PySem.W.keepIn K (.ref C) = true
  sb : PySem.W.subIn K (.ref C) (.type "BaseException") = some true
  ty : PySem.W.typeIn K (.ref C) = some (.type "type")
  no : cflds c = []
/-- the promise of an error's __init__: the attributes fl, the last one stored first in it -/
def spE (C : Addr) (fl : List Str) : Sp := fun vs H Q _ => ∃ (a : Addr) (ys : List V), vs = .ref a :: ys ∧ ys.length = fl.length ∧ H a = some (exo a C none) ∧ ∀ dx, H dx = none → dx ≠ a → Q .non (upd (upd H dx (exd dx (fl.zip ys.reverse))) a (exo a C (some dx)))
/-- an own error class with an __init__ that stores what it is given -/
structure ExMA (P : Program) (w : World) (K : PySem.W.Frag) (mg : Str → Option Value) (base : Heap) (C : Addr) (c : Nat) : Prop where
  gC : mg (cname c) = some (.ref C)
  T : OexC K C
  ex : ∃ (f : Addr) (fd : FuncData) (ps : List Str), FnOk P w K mg base (L2.CX P w) 1 f fd ps (spE C (cflds c)) ∧ PySem.W.findIn K (.ref C) "__init__" = some (some (.ref f)) ∧ PySem.W.typeIn K (.ref f) = some (.type "function") ∧ Binds K fd ps []
theorem ca_of {G : GC} {c : Nat} {C : Addr} (h : G.mg (cname c) = some (.ref C)) : G.ca c = C := by
  unfold GC.ca
  rw [h]
section
variable {X : Cx} {W : Wi} {k : Kd} {C : Addr} {c : Nat} {x : Str} {p pos pos2 : Pos} {e : Expr} {es : List Expr}
/-- X() -/
theorem pmk_own0 (M : ExM0 X.K X.mg C c) (hx : x = cname c) (hg : Gl X x) (hdb : (x == ("__debug__" : Str)) = false) : PMk X (.Call (.Name x p) [] [] pos) (fun _ H Q => Q (.ref C) none H) := by
  subst hx
  intro pins s σ H Q I h
  refine wpAny_Call_Name_kw (ld_glob I hg M.gC ?_ hdb)
  refine PySem.W.callWith_K0 I.kIn M.kC ?_
  obtain ⟨bm, N, nm, qn, bs, hdct, sn, sub, ab, col, dd, k0, k1, k2, k3, k5, mN, hC, hN, hni, T⟩ := exc_obj I.kIn M.ex
  refine wpAny_call_exc_subT PySem.F.excBase_ValueError T hC hN hni (fun h' e hm => ?_) (Nat.zero_le _)
  exact mk_of I hm (raises_own M.sb M.ty) h (I.hok.gone hm.new)
theorem rs_raise0 (M : ExM0 X.K X.mg C c) (hc : X.calm = true) (tk : Takes X W.w) (hx : x = cname c := by rfl) (hg : Gl X x := by rfl) (hdb : (x == ("__debug__" : Str)) = false := by decide) :
    RS X W k (.Raise (some (.Call (.Name x p) [] [] pos)) none pos2) (fun r => .er (.exc c []) r) :=
  (ps_raise hc tk (pmk_own0 M hx hg hdb)).imp fun D σ H ⟨H0, F0, fp, F, r, m, o⟩ =>
    o fp F σ H _ _ (Same.refl _) m ⟨c, [], [], rfl, by rw [ca_of (G := gOf X) M.gC], .nil, .inl ⟨rfl, M.no, rfl⟩⟩
/-- X(e, ..) -/
theorem rs_raise (M : ExMA X.prog X.w X.K X.mg X.base C c) (hc : X.calm = true) (tk : Takes X W.w) (hr : Room 2 X.A) {fa : Env → Res (List D)} (ha : RA X W (e :: es) fa) (hl : (e :: es).length ≤ 1000 := by decide) (hx : x = cname c := by rfl) (hg : Gl X x := by rfl) (hdb : (x == ("__debug__" : Str)) = false := by decide)
    (he : starEach (e :: es) X.env = (false, eval e X.env) :: starEach es X.env := by rfl) (hpl : (backTo pos (starEach es X.env)).any (·.1) = false := by rfl) :
    RS X W k (.Raise (some (.Call (.Name x p) (e :: es) [] pos)) none pos2) (fun r => lift (fa r) r fun ds => if ds.length = (cflds c).length ∧ ds.length ≤ 1000 then .er (.exc c ds.reverse) r else .bad) := by
  subst hx
  obtain ⟨f, fd, ps, F1, iC, tI, hb⟩ := M.ex
  refine (ps_raise hc tk (pmk_oex M.T iC tI F1 hr hb .nil (passL (X := X)) hg M.gC ha hdb he hpl)).imp fun D σ H ⟨H0, F0, fp, F, r, m, o⟩ => ⟨H0, F0, fp, F, r, m, o.lift m fun F' H' ds gr o' vs rv => ?_⟩
  split at o'
  · rename_i hl
    have hlen := rv.length
    refine ⟨by omega, fun a na => ⟨a, vs, by simp, by omega, upd_same, fun dx ndx ne => ⟨rfl, dx, _, upd_same, by rw [upd_ne ne, upd_same], ?_, ?_⟩⟩⟩
    · rw [upd_ne ne] at ndx
      exact ndx
    · rw [upd_ne ne] at ndx
      have eH : upd (del (upd (upd (upd H' a (exo a C none)) dx (exd dx ((cflds c).zip vs.reverse))) a (exo a C (some dx))) a) dx (.xd ((cflds c).zip vs.reverse)) = upd H' dx (.xd ((cflds c).zip vs.reverse)) := by
        funext b
        by_cases hb : b = dx
        · rw [hb, upd_same, upd_same]
        · rw [upd_ne hb, upd_ne hb]
          by_cases ha : b = a
          · rw [ha, del_same, na]
          · rw [del_ne ha, upd_ne ha, upd_ne hb, upd_ne ha]
      rw [eH]
      have nF : F' dx = none := gr.sub.free ndx
      have s1 : Same F' (upd F' dx (.xd ((cflds c).zip vs.reverse))) := fun b u q => by rw [upd_ne (ne_of_none q nF)]; exact q
      have g2 : Grow F' H' (upd F' dx (.xd ((cflds c).zip vs.reverse))) (upd H' dx (.xd ((cflds c).zip vs.reverse))) := Grow.of
        (fun b u q => by rw [upd_ne (ne_of_none q ndx)]; exact q)
        s1
        (fun b u q => by
          by_cases hb : b = dx
          · subst hb; rw [upd_same] at q ⊢; exact q
          · rw [upd_ne hb] at q ⊢; exact gr.sub b u q)
        (fun b u q => by
          by_cases hb : b = dx
          · subst hb; exact .inr ndx
          · rw [upd_ne hb] at q; exact .inl q)
      exact o' fp _ σ _ _ _ g2.f ((m.grow gr).grow g2) ⟨c, vs.reverse, ds.reverse, rfl, by rw [ca_of (G := gOf X) M.gC], (rv.mono s1).reverse, .inr ⟨dx, rfl, upd_same, by rw [List.length_reverse]; omega⟩⟩
  · exact o'.elim
end
section
variable {P : Program} {w : World} {K : PySem.W.Frag} {mg : Str → Option Value} {base : Heap} {C f : Addr} {fd : FuncData} {st : Stmt} {qual fn gn pn qn : Str}
theorem exc1_ok (F : Fun K "__init__" qual st f fd) (S : FnScope ([("self" : Str), pn]) ([("self" : Str), pn]) (defScope st)) (T : OexC K C) (no : PySem.W.findIn K (.ref C) fn = some none)
    (hb : ∀ X : Cx, X.N = [("self" : Str), pn] → X.env.scope = defScope st → PSs X (defBody st) (tOst X.K fn (tVar 0) (tVar 1))) : FnOk P w K mg base (L2.CX P w) 1 f fd [("self" : Str), pn] (spE C [fn]) := by
  refine F.okX S (fun vs H Q E ⟨a, ys, e, hl, _⟩ => by rw [e, List.length_cons, hl]; rfl) fun cdv A outer s H vs Q E hr ⟨a, ys, e, hl, ha, k⟩ => ?_
  subst e
  match ys, hl with
  | [y], _ => exact ⟨_, hb _ rfl rfl, _, rfl, _, rfl, a, C, rfl, T, no, .inl ⟨ha, fun dx nd ne => k dx nd ne⟩⟩
theorem exc2_ok (F : Fun K "__init__" qual st f fd) (S : FnScope ([("self" : Str), pn, qn]) ([("self" : Str), pn, qn]) (defScope st)) (T : OexC K C) (no : PySem.W.findIn K (.ref C) fn = some none) (no2 : PySem.W.findIn K (.ref C) gn = some none)
    (hb : ∀ X : Cx, X.N = [("self" : Str), pn, qn] → X.env.scope = defScope st → PSs X (defBody st) (tSeq (tOst X.K fn (tVar 0) (tVar 1)) (tOst X.K gn (tVar 0) (tVar 2)))) : FnOk P w K mg base (L2.CX P w) 1 f fd [("self" : Str), pn, qn] (spE C [gn, fn]) := by
  refine F.okX S (fun vs H Q E ⟨a, ys, e, hl, _⟩ => by rw [e, List.length_cons, hl]; rfl) fun cdv A outer s H vs Q E hr ⟨a, ys, e, hl, ha, k⟩ => ?_
  subst e
  match ys, hl with
  | [y, z], _ =>
    refine ⟨_, hb _ rfl rfl, _, rfl, _, rfl, a, C, rfl, T, no, .inl ⟨ha, fun dx nd ne => ⟨_, rfl, _, rfl, a, C, rfl, T, no2, .inr ⟨dx, [(fn, y)], upd_same, by rw [upd_ne ne, upd_same], (by show 1 ≤ 900; decide), ?_⟩⟩⟩⟩
    have q := k dx nd ne
    have eH : upd (upd (upd H dx (exd dx [(fn, y)])) a (exo a C (some dx))) dx (exd dx [(gn, z), (fn, y)]) = upd (upd H dx (exd dx [(gn, z), (fn, y)])) a (exo a C (some dx)) := by
      funext b
      by_cases hb : b = dx
      · rw [hb, upd_same, upd_ne ne, upd_same]
      · rw [upd_ne hb]
        by_cases hba : b = a
        · rw [hba, upd_same, upd_same]
        · rw [upd_ne hba, upd_ne hb, upd_ne hba, upd_ne hb]
    show Q .non _
    rw [eH]
    exact q
end
end Mir
namespace Mir
open PySem PySem.Spec PyProof.Rows L2
variable [Tn]
/-- the longest list that is looked after -/
def lim : Nat := 1000000
theorem lim_le : lim ≤ sizeLine := by rw [sizeLine_eq]; decide
section
variable {G : GC} {F H F' H' : Hp} {v : V} {d : D}
theorem RdD.grow (h : RdD G F H v d) (g : Grow F H F' H') : RdD G F' H' v d := h.elim (fun r => .inl (r.mono g.f)) fun ⟨A, o⟩ => .inr ⟨A, o.grow g⟩
theorem RdD.int {i : Int} (h : RdD G F H v (.int i)) : v = .int i := by
  rcases h with h | ⟨A, h⟩ <;> cases h
  rfl
theorem RdD.bl {i : Bool} (h : RdD G F H v (.bl i)) : v = .bl i := by
  rcases h with h | ⟨A, h⟩ <;> cases h
  rfl
theorem RdD.str {i : Str} (h : RdD G F H v (.str i)) : v = .str i := by
  rcases h with h | ⟨A, h⟩ <;> cases h
  rfl
theorem RdD.non (h : RdD G F H v .non) : v = .non := by
  rcases h with h | ⟨A, h⟩ <;> cases h
  rfl
theorem RdD.lst {ds : List D} (s : Same F H) (h : RdD G F H v (.lst ds)) : ∃ a vs, v = .ref a ∧ H a = some (.lst vs) ∧ RepAll G F vs ds := by
  rcases h with h | ⟨A, h⟩
  · cases h with
    | lst e r => exact ⟨_, _, rfl, s _ _ e, r⟩
  · cases h with
    | lst _ e _ r _ => exact ⟨_, _, rfl, e, r.to_rep.2⟩
theorem RdD.tupS {ds : List D} (h : RdD G F H v (.tup ds)) : Rep G F v (.tup ds) := by
  rcases h with h | ⟨A, h⟩
  · exact h
  · cases h with
    | tup e => cases e
theorem RdD.tup {ds : List D} (s : Same F H) (h : RdD G F H v (.tup ds)) : ∃ a vs, v = .ref a ∧ SqT G.K H a vs ∧ RepAll G F vs ds := by
  cases h.tupS with
  | tup e r => exact ⟨_, _, rfl, Same.sqT s e, r⟩
theorem RdD.scr {ns : List Int} (s : Same F H) (h : RdD G F H v (.scr ns)) : ∃ a, v = .ref a ∧ SqL G.K H a (ns.map V.int) := by
  rcases h with h | ⟨A, h⟩
  · cases h with
    | scr e => exact ⟨_, rfl, s.seq e⟩
  · cases h
theorem RdD.obj {c : Nat} {vs : List D} (s : Same F H) (h : RdD G F H v (.obj c vs)) : ∃ a dx fs, v = .ref a ∧ H a = some (.ins (G.ca c) dx fs) := by
  rcases h with h | ⟨A, h⟩
  · cases h with
    | obj e _ _ => exact ⟨_, _, _, rfl, s _ _ e⟩
  · cases h with
    | obj _ e _ _ _ _ => exact ⟨_, _, _, rfl, e⟩
theorem RdD.dic {ks vs : List D} (s : Same F H) (h : RdD G F H v (.dic ks vs)) : ∃ a o xs ws, v = .ref a ∧ H a = some (.ext (isObj' a o)) ∧ (a == sysModules) = false ∧ DicO G o xs ∧ Vals ws (xs.map (·.2.2)) ∧ RepAll G F (xs.map fun x => V.ref x.2.1) ks ∧ ks.map keyOf = xs.map (fun x => some x.1) ∧ RepAll G F ws vs := by
  rcases h with h | ⟨A, h⟩
  · cases h with
    | dic e z1 z2 z3 z4 z5 r => exact ⟨_, _, _, _, rfl, s _ _ e, z1, z2, z3, z4, z5, r⟩
  · cases h with
    | dic _ e _ z1 z2 z3 z4 z5 r _ => exact ⟨_, _, _, _, rfl, e, z1, z2, z3, z4, z5, r.to_rep.2⟩
/-- a new object, shared -/
theorem Grow.mk1 {p : Addr} {o : HO} (s : Same F H) (hp : H p = none) : Grow F H (upd F p o) (upd H p o) := Grow.of
  (fun b u q => by rw [upd_ne (ne_of_none q hp)]; exact q)
  (fun b u q => by rw [upd_ne (ne_of_none (s b u q) hp)]; exact q)
  (fun b u q => by
    by_cases hb : b = p
    · subst hb; rw [upd_same] at q ⊢; exact q
    · rw [upd_ne hb] at q ⊢; exact s b u q)
  (fun b u q => by
    by_cases hb : b = p
    · subst hb; exact .inr hp
    · rw [upd_ne hb] at q; exact .inl q)
/-- a new object, one's own -/
theorem Grow.own {p : Addr} {o : HO} (s : Same F H) (hp : H p = none) : Grow F H F (upd H p o) := Grow.of
  (fun b u q => by rw [upd_ne (ne_of_none q hp)]; exact q)
  (Same.refl _)
  (fun b u q => by rw [upd_ne (ne_of_none (s b u q) hp)]; exact s b u q)
  (fun b u q => .inl q)
end
def toPy : D → Option PyData
  | .non => some .none
  | .bl b => some (.bool b)
  | .int i => some (.int i)
  | .str s => some (.str s)
  | .tup xs => (toPys xs).map .tuple
  | .lst xs => (toPys xs).map .list
  | _ => none
where toPys : List D → Option (List PyData)
  | [] => some []
  | x :: xs => match toPy x, toPys xs with
    | some p, some ps => some (p :: ps)
    | _, _ => none
mutual
theorem Rep.dp {G : GC} {F H : Hp} (s : Same F H) : ∀ {v : V} {d : D} {p : PyData}, Rep G F v d → toPy d = some p → Dp G.K H v p
  | _, _, _, .non, e => by simp only [toPy, Option.some.injEq] at e; subst e; exact .non
  | _, _, _, .bl b, e => by simp only [toPy, Option.some.injEq] at e; subst e; exact .bl b
  | _, _, _, .int i, e => by simp only [toPy, Option.some.injEq] at e; subst e; exact .int i
  | _, _, _, .str x, e => by simp only [toPy, Option.some.injEq] at e; subst e; exact .str x
  | _, _, _, .tup h r, e => by
    simp only [toPy, Option.map_eq_some_iff] at e
    obtain ⟨ps, e1, e2⟩ := e
    subst e2
    exact .tup (Same.sqT s h) (RepAll.dp s r e1)
  | _, _, _, .lst h r, e => by
    simp only [toPy, Option.map_eq_some_iff] at e
    obtain ⟨ps, e1, e2⟩ := e
    subst e2
    exact .lst (.of (s _ _ h)) (RepAll.dp s r e1)
  | _, _, _, .scr _, e => by simp [toPy] at e
  | _, _, _, .dic _ _ _ _ _ _ _, e => by simp [toPy] at e
  | _, _, _, .obj _ _ _, e => by simp [toPy] at e
  | _, _, _, .exc _ _, e => by simp [toPy] at e
  | _, _, _, .excF _ _ _ _, e => by simp [toPy] at e
  | _, _, _, .cls _, e => by simp [toPy] at e
  | _, _, _, .ty _, e => by simp [toPy] at e
theorem RepAll.dp {G : GC} {F H : Hp} (s : Same F H) : ∀ {vs : List V} {ds : List D} {ps : List PyData}, RepAll G F vs ds → toPy.toPys ds = some ps → DpAll G.K H vs ps
  | _, _, _, .nil, e => by simp only [toPy.toPys, Option.some.injEq] at e; subst e; exact .nil
  | _, _, _, .cons r t, e => by
    rw [toPy.toPys] at e
    split at e
    · rename_i p ps h1 h2
      cases e
      exact .cons (Rep.dp s r h1) (RepAll.dp s t h2)
    · cases e
end
theorem RdD.dp {G : GC} {F H : Hp} {v : V} {d : D} {p : PyData} (s : Same F H) (h : RdD G F H v d) (e : toPy d = some p) : Dp G.K H v p := by
  rcases h with h | ⟨A, h⟩
  · exact h.dp s e
  · cases h with
    | lst _ h _ r _ =>
      simp only [toPy, Option.map_eq_some_iff] at e
      obtain ⟨ps, e1, e2⟩ := e
      subst e2
      exact .lst (.of h) (r.to_rep.2.dp s e1)
    | tup z => cases z
    | dic => simp [toPy] at e
    | obj => simp [toPy] at e
def addD : D → D → Res D
  | .int i, .int j => .ok (.int (i + j))
  | .str s, .str t => if s.length + t.length ≤ lim then .ok (.str (s ++ t)) else .bad
  | .tup xs, .tup ys => if xs.length + ys.length ≤ lim then .ok (.tup (xs ++ ys)) else .bad
  | .lst xs, .lst ys => if xs.length + ys.length ≤ lim then .ok (.lst (xs ++ ys)) else .bad
  | _, _ => .bad
def subD : D → D → Res D
  | .int i, .int j => .ok (.int (i - j))
  | _, _ => .bad
/-- the bits of a number -/
def bits (i : Int) : Nat := i.natAbs.log2
instance (i j : Int) : Decidable (CMul i j) := by unfold CMul; infer_instance
def mulD : D → D → Res D
  | .int i, .int j => if bits i + bits j < 1000000 ∨ CMul i j then .ok (.int (i * j)) else .bad
  | .lst xs, .int k => if k ≤ 1000 ∧ 0 ≤ k ∧ xs.length ≤ 1000 then .ok (.lst (List.replicate k.toNat xs).flatten) else .bad
  | .tup xs, .int k => if k ≤ 1000 ∧ 0 ≤ k ∧ xs.length ≤ 1000 then .ok (.tup (List.replicate k.toNat xs).flatten) else .bad
  | _, _ => .bad
def modD : D → D → Res D
  | .int i, .int j => if 0 < j then .ok (.int (i % j)) else .bad
  | _, _ => .bad
def divD : D → D → Res D
  | .int i, .int j => if 0 < j ∧ bits j < 9000 then .ok (.int (i / j)) else .bad
  | _, _ => .bad
def powD : D → D → Res D
  | .int i, .int j => if 0 ≤ j ∧ j ≤ 1000000 ∧ i.natAbs < 2 ^ 64 then .ok (.int (i ^ j.toNat)) else .bad
  | _, _ => .bad
def shrD : D → D → Res D
  | .int i, .int j => if 0 ≤ j then .ok (.int (i / 2 ^ j.toNat)) else .bad
  | _, _ => .bad
def cmpD (p : Int → Int → Bool) : D → D → Res D
  | .int i, .int j => .ok (.bl (p i j))
  | _, _ => .bad
def eqS (a b : D) : Res D := match toPy a, toPy b with
  | some p, some q => if SeqAt.shaped p = true ∧ SeqAt.shaped q = true then .ok (.bl (PyData.eqv p q)) else .bad
  | _, _ => .bad
def neS (a b : D) : Res D := match toPy a, toPy b with
  | some p, some q => if SeqAt.shaped p = true ∧ SeqAt.shaped q = true then .ok (.bl (!PyData.eqv p q)) else .bad
  | _, _ => .bad
def isN : D → D → Res D
  | .non, .non => .ok (.bl true)
  | _, .non => .ok (.bl false)
  | _, _ => .bad
def notN : D → D → Res D
  | .non, .non => .ok (.bl false)
  | _, .non => .ok (.bl true)
  | _, _ => .bad
section
variable {X : Cx}
theorem opD_I {rr : R2} {op : D → D → Res D} (h : ∀ a b d, op a b = .ok d → ∃ i j r, a = .int i ∧ b = .int j ∧ (∀ F, Rep (gOf X) F r d) ∧ ∀ (H : Hp) (Q : VK), Q r H → rr (.int i) (.int j) H Q) : OpD (gOf X) rr .R .R .S op := fun F H x y a b d Q Ha Hb s ka kb e k => by
  obtain ⟨i, j, r, rfl, rfl, hr, q⟩ := h a b d e
  rw [RdD.int (show RdD _ _ _ x _ from ka), RdD.int (show RdD _ _ _ y _ from kb)]
  exact q H Q (k r F H (Grow.refl s) (hr F))
theorem sub_ok : OpD (gOf X) (rI0 fun i j => .int (i - j)) .R .R .S subD := opD_I fun a b d e => by
  unfold subD at e
  split at e <;> cases e
  exact ⟨_, _, _, rfl, rfl, fun F => .int _, fun H Q q => ⟨_, _, rfl, rfl, q⟩⟩
theorem mod_ok : OpD (gOf X) (rI (fun _ j => 0 < j) fun i j => .int (i % j)) .R .R .S modD := opD_I fun a b d e => by
  unfold modD at e
  split at e
  · split at e <;> cases e
    rename_i h
    exact ⟨_, _, _, rfl, rfl, fun F => .int _, fun H Q q => ⟨_, _, rfl, rfl, h, q⟩⟩
  · cases e
theorem div_ok : OpD (gOf X) (rI CDivW fun i j => .int (i / j)) .R .R .S divD := opD_I fun a b d e => by
  unfold divD at e
  split at e
  · split at e <;> cases e
    rename_i h
    exact ⟨_, _, _, rfl, rfl, fun F => .int _, fun H Q q => ⟨_, _, rfl, rfl, h, q⟩⟩
  · cases e
theorem pow_ok : OpD (gOf X) (rI CPow fun i j => .int (i ^ j.toNat)) .R .R .S powD := opD_I fun a b d e => by
  unfold powD at e
  split at e
  · split at e <;> cases e
    rename_i h
    exact ⟨_, _, _, rfl, rfl, fun F => .int _, fun H Q q => ⟨_, _, rfl, rfl, h, q⟩⟩
  · cases e
theorem shr_ok : OpD (gOf X) (rI (fun _ j => 0 ≤ j) fun i j => .int (i / 2 ^ j.toNat)) .R .R .S shrD := opD_I fun a b d e => by
  unfold shrD at e
  split at e
  · split at e <;> cases e
    rename_i h
    exact ⟨_, _, _, rfl, rfl, fun F => .int _, fun H Q q => ⟨_, _, rfl, rfl, h, q⟩⟩
  · cases e
theorem cmp_ok {p : Int → Int → Bool} : OpD (gOf X) (rI0 fun i j => .bl (p i j)) .R .R .S (cmpD p) := opD_I fun a b d e => by
  unfold cmpD at e
  split at e <;> cases e
  exact ⟨_, _, _, rfl, rfl, fun F => .bl _, fun H Q q => ⟨_, _, rfl, rfl, q⟩⟩
theorem eq_ok : OpD (gOf X) (rEqD X.K) .R .R .S eqS := fun F H x y a b d Q Ha Hb s ka kb e k => by
  unfold eqS at e
  split at e
  · rename_i p q h1 h2
    split at e <;> cases e
    rename_i h
    exact ⟨p, q, RdD.dp s (show RdD (gOf X) F H x a from ka) h1, RdD.dp s (show RdD (gOf X) F H y b from kb) h2, h.1, h.2, k _ F H (Grow.refl s) (.bl _)⟩
  · cases e
theorem ne_ok : OpD (gOf X) (rNeD X.K) .R .R .S neS := fun F H x y a b d Q Ha Hb s ka kb e k => by
  unfold neS at e
  split at e
  · rename_i p q h1 h2
    split at e <;> cases e
    rename_i h
    exact ⟨p, q, RdD.dp s (show RdD (gOf X) F H x a from ka) h1, RdD.dp s (show RdD (gOf X) F H y b from kb) h2, h.1, h.2, k _ F H (Grow.refl s) (.bl _)⟩
  · cases e
theorem RdD.non_iff {G : GC} {F H : Hp} {v : V} {d : D} (h : RdD G F H v d) : decide (v = .non) = (match d with | .non => true | _ => false) := by
  rcases h with h | ⟨A, h⟩ <;> cases h <;> simp
theorem isN_ok : OpD (gOf X) (fun x y H Q => y = .non ∧ Q (.bl (decide (x = .non))) H) .R .R .S isN := fun F H x y a b d Q Ha Hb s ka kb e k => by
  have z := RdD.non_iff (show RdD (gOf X) F H x a from ka)
  unfold isN at e
  split at e <;> cases e
  · exact ⟨RdD.non kb, by rw [z]; exact k _ F H (Grow.refl s) (.bl _)⟩
  · refine ⟨RdD.non kb, ?_⟩
    have z2 : decide (x = .non) = false := by
      rw [z]
      split
      · rename_i h; exact absurd rfl h
      · rfl
    rw [z2]
    exact k _ F H (Grow.refl s) (.bl _)
theorem notN_ok : OpD (gOf X) (fun x y H Q => y = .non ∧ Q (.bl (!decide (x = .non))) H) .R .R .S notN := fun F H x y a b d Q Ha Hb s ka kb e k => by
  have z := RdD.non_iff (show RdD (gOf X) F H x a from ka)
  unfold notN at e
  split at e <;> cases e
  · exact ⟨RdD.non kb, by rw [z]; exact k _ F H (Grow.refl s) (.bl _)⟩
  · refine ⟨RdD.non kb, ?_⟩
    have z2 : decide (x = .non) = false := by
      rw [z]
      split
      · rename_i h; exact absurd rfl h
      · rfl
    rw [z2]
    exact k _ F H (Grow.refl s) (.bl _)
def rAddA (K : PySem.W.Frag) : R2 := fun x y H Q => (rI0 (fun i j => .int (i + j)) x y H Q ∨ ∃ i j, x = .str i ∧ y = .str j ∧ i.length + j.length ≤ sizeLine ∧ Q (.str (i ++ j)) H) ∨ (rCatA K x y H Q ∨ rCat x y H Q)
theorem op_addA : OpR X (binaryOp .Add) (rAddA X.K) := (op_add.or op_add_str).or (op_catA.or op_cat)
theorem add_ok : OpD (gOf X) (rAddA X.K) .R .R .S addD := fun F H x y a b d Q Ha Hb s ka kb e k => by
  have ka : RdD (gOf X) F H x a := ka
  have kb : RdD (gOf X) F H y b := kb
  unfold addD at e
  split at e
  · cases e
    exact .inl (.inl ⟨_, _, ka.int, kb.int, k _ F H (Grow.refl s) (.int _)⟩)
  · split at e <;> cases e
    rename_i h
    exact .inl (.inr ⟨_, _, ka.str, kb.str, Nat.le_trans h lim_le, k _ F H (Grow.refl s) (.str _)⟩)
  · split at e <;> cases e
    rename_i h
    obtain ⟨p, vs, rfl, h1, r1⟩ := ka.tup s
    obtain ⟨q, ws, rfl, h2, r2⟩ := kb.tup s
    refine .inr (.inl ⟨p, q, vs, ws, rfl, rfl, h1, h2, Nat.le_trans (by rw [r1.length, r2.length]; exact h) lim_le, fun z => ?_, fun _ z => ?_, fun _ _ t ht => ?_⟩)
    · subst z
      cases r1
      exact k _ F H (Grow.refl s) kb.tupS
    · subst z
      cases r2
      rw [List.append_nil] at k
      exact k _ F H (Grow.refl s) ka.tupS
    · exact k _ _ _ (Grow.mk1 s ht) (Rep.tup (.of upd_same) ((r1.append r2).mono (Grow.mk1 s ht).f))
  · split at e <;> cases e
    rename_i h
    obtain ⟨p, vs, rfl, h1, r1⟩ := ka.lst s
    obtain ⟨q, ws, rfl, h2, r2⟩ := kb.lst s
    exact .inr (.inr ⟨p, q, vs, ws, rfl, rfl, h1, h2, Nat.le_trans (by rw [r1.length, r2.length]; exact h) lim_le, fun t ht => k _ _ _ (Grow.mk1 s ht) (Rep.lst upd_same ((r1.append r2).mono (Grow.mk1 s ht).f))⟩)
  · cases e
theorem rep_all {G : GC} {F : Hp} {vs : List V} {ds : List D} (r : RepAll G F vs ds) : ∀ n : Nat, RepAll G F (List.replicate n vs).flatten (List.replicate n ds).flatten
  | 0 => .nil
  | n + 1 => by
    rw [List.replicate_succ, List.flatten_cons, List.replicate_succ, List.flatten_cons]
    exact r.append (rep_all r n)
theorem tuple_mulOne (l : Addr) (items : Array Value) (n : Nat) (dd : Option Addr) (sl : Array (Option Value)) (x : Int) (u : Tok) (c0 : (decide (x < -(2 ^ 63)) || decide (x ≥ 2 ^ 63)) = false) (c1 : (items.isEmpty || x == 1) = true) :
    Meets (Builtin.«tuple.__mul__» ⟨[.ref l, .int x u], []⟩) (fun _ R s => s.heap.get? l = some { cls := .type "tuple", dict := dd, data := .seq items n, slots := sl } ∧
      R (.ok (.ret (Value.ref l))) s) :=
  .of_wp fun prog w A R s h => by
    obtain ⟨hp, g, d, tk, os⟩ := s
    obtain ⟨hl, h⟩ := h
    have f1 := AutoSeq1.idx_int
    wp_walk using wpAny_loadPart' hl
    repeat (first
      | (refine wpAny_ite_false (decide_eq_false (by rw [c0]; exact Bool.false_ne_true)) ?_; wp_walk using wpAny_loadPart' hl)
      | (refine wpAny_ite_true (decide_eq_true (by rw [c1])) ?_; wp_walk using wpAny_loadPart' hl))
    exact ⟨_, rfl, h⟩
theorem tuple_mulNone (l : Addr) (items : Array Value) (n : Nat) (dd : Option Addr) (sl : Array (Option Value)) (x : Int) (u : Tok) (c0 : (decide (x < -(2 ^ 63)) || decide (x ≥ 2 ^ 63)) = false) (c1 : (items.isEmpty || x == 1) = false) (c2 : (decide (x ≤ 0) || items.isEmpty) = true) :
    Meets (Builtin.«tuple.__mul__» ⟨[.ref l, .int x u], []⟩) (fun _ R s => s.heap.get? l = some { cls := .type "tuple", dict := dd, data := .seq items n, slots := sl } ∧
      R (.ok (.ret (Value.ref s.heap.objs.size))) { s with heap := s.heap.push { cls := Value.type "tuple", data := Data.seq #[] }, toks := s.toks }) :=
  .of_wp fun prog w A R s h => by
    obtain ⟨hp, g, d, tk, os⟩ := s
    obtain ⟨hl, h⟩ := h
    have f1 := AutoSeq1.idx_int
    wp_walk using wpAny_loadPart' hl
    repeat (first
      | (refine wpAny_ite_false (decide_eq_false (by rw [c0]; exact Bool.false_ne_true)) ?_; wp_walk using wpAny_loadPart' hl)
      | (refine wpAny_ite_false (decide_eq_false (by rw [c1]; exact Bool.false_ne_true)) ?_; wp_walk using wpAny_loadPart' hl)
      | (refine wpAny_ite_true (decide_eq_true (by rw [c2])) ?_; wp_walk using wpAny_loadPart' hl))
    exact ⟨_, rfl, h⟩
def rRepT1 (K : PySem.W.Frag) : R2 := fun x y H Q => ∃ l k xs, x = .ref l ∧ y = .int k ∧ SqT K H l xs ∧ (xs = [] ∨ k = 1) ∧ 0 ≤ k ∧ k ≤ 1000 ∧ Q (.ref l) H
def rRepT0 (K : PySem.W.Frag) : R2 := fun x y H Q => ∃ l xs, x = .ref l ∧ y = .int 0 ∧ SqT K H l xs ∧ xs ≠ [] ∧ ∀ p, H p = none → Q (.ref p) (upd H p (.tup []))
theorem op_repT1 {X : Cx} : OpR X (binaryOp .Mult) (rRepT1 X.K) := by
  intro pins s σ H x y v u Q I rx ry h
  obtain ⟨l, k, xs, rfl, rfl, hT, hne, h1, h2, q⟩ := h
  cases rx
  obtain ⟨t, rfl⟩ := ry
  obtain ⟨its, r, ⟨⟨cls, dd, data, sl⟩, ho, hc, n, hd⟩, hs⟩ := I.tuple hT
  simp only at hc hd
  subst hc hd
  have hle : its.length = xs.length := r.length.symm
  have c0 : (decide (k < -(2 ^ 63)) || decide (k ≥ 2 ^ 63)) = false := by
    rw [decide_eq_false (by omega), decide_eq_false (by omega)] <;> rfl
  have c1 : (its.toArray.isEmpty || k == 1) = true := by
    rcases hne with rfl | rfl
    · have : its = [] := List.eq_nil_of_length_eq_zero hle
      subst this
      rfl
    · simp
  refine wpAny_binaryOp_repeat_ref (T := "tuple") (U := "int") (by decide) ⟨_, ho, rfl⟩ (fun s' => typeIs_int s' k t) noFill_tuple_mul F.fills_int_mul F.slot_int_rmul repeat_tuple F.slot_int_index.lookup
    (call_meets F.slot_int_rmul (typeIs_int s k t) F.entry_int_rmul (F.args_int_rmul_2 _ _) (int_rmul_tuple k t l its.toArray n dd sl)
      ⟨ho, rfl, ⟨_, ho, rfl⟩, call_meets F.slot_tuple_mul ⟨_, ho, rfl⟩ F.entry_tuple_mul (F.args_tuple_mul_2 _ _) (tuple_mulOne l its.toArray n dd sl k t c0 c1) ⟨ho, ?_⟩⟩)
  exact ⟨.ref l, _, I, rfl, q⟩
theorem op_repT0 {X : Cx} : OpR X (binaryOp .Mult) (rRepT0 X.K) := by
  intro pins s σ H x y v u Q I rx ry h
  obtain ⟨l, xs, rfl, rfl, hT, hne, q⟩ := h
  cases rx
  obtain ⟨t, rfl⟩ := ry
  obtain ⟨its, r, ⟨⟨cls, dd, data, sl⟩, ho, hc, n, hd⟩, hs⟩ := I.tuple hT
  simp only at hc hd
  subst hc hd
  have hle : its.length = xs.length := r.length.symm
  have hn : its ≠ [] := fun e => hne (by
    rw [e] at hle
    exact List.eq_nil_of_length_eq_zero hle.symm)
  have hi : its.toArray.isEmpty = false := by
    cases its with
    | nil => exact absurd rfl hn
    | cons a b => rfl
  have c0 : (decide ((0 : Int) < -(2 ^ 63)) || decide ((0 : Int) ≥ 2 ^ 63)) = false := by decide
  have c1 : (its.toArray.isEmpty || (0 : Int) == 1) = false := by rw [hi]; rfl
  have c2 : (decide ((0 : Int) ≤ 0) || its.toArray.isEmpty) = true := by simp
  refine wpAny_binaryOp_repeat_ref (T := "tuple") (U := "int") (by decide) ⟨_, ho, rfl⟩ (fun s' => typeIs_int s' 0 t) noFill_tuple_mul F.fills_int_mul F.slot_int_rmul repeat_tuple F.slot_int_index.lookup
    (call_meets F.slot_int_rmul (typeIs_int s 0 t) F.entry_int_rmul (F.args_int_rmul_2 _ _) (int_rmul_tuple 0 t l its.toArray n dd sl)
      ⟨ho, rfl, ⟨_, ho, rfl⟩, call_meets F.slot_tuple_mul ⟨_, ho, rfl⟩ F.entry_tuple_mul (F.args_tuple_mul_2 _ _) (tuple_mulNone l its.toArray n dd sl 0 t c0 c1 c2) ⟨ho, ?_⟩⟩)
  refine ⟨.ref s.heap.objs.size, _, I.laid (t' := s.toks) (o := .tup []) (fun b ob q => Heap.get?_push_of_some _ q) (Nat.le_refl _) ?_, rfl, q _ (I.hok.fresh (Nat.le_refl _))⟩
  exact ⟨by rw [sizeLine_eq]; simp, [], .nil, IsTup.new _ _⟩
def rMulA (K : PySem.W.Frag) : R2 := fun x y H Q => (rI CMulW (fun i j => .int (i * j)) x y H Q ∨ rI CMul (fun i j => .int (i * j)) x y H Q) ∨ (rRep x y H Q ∨ (rRepT K x y H Q ∨ (rRepT1 K x y H Q ∨ rRepT0 K x y H Q)))
theorem op_mulA : OpR X (binaryOp .Mult) (rMulA X.K) := (op_mulW.or op_mul).or (op_rep.or (op_repT.or (op_repT1.or op_repT0)))
theorem mul_ok : OpD (gOf X) (rMulA X.K) .R .R .S mulD := fun F H x y a b d Q Ha Hb s ka kb e k => by
  have ka : RdD (gOf X) F H x a := ka
  have kb : RdD (gOf X) F H y b := kb
  unfold mulD at e
  split at e
  · split at e <;> cases e
    rename_i h
    rcases h with h | h
    · exact .inl (.inl ⟨_, _, ka.int, kb.int, h, k _ F H (Grow.refl s) (.int _)⟩)
    · exact .inl (.inr ⟨_, _, ka.int, kb.int, h, k _ F H (Grow.refl s) (.int _)⟩)
  · split at e <;> cases e
    rename_i h
    obtain ⟨p, vs, rfl, h1, r1⟩ := ka.lst s
    refine .inr (.inl ⟨p, _, vs, rfl, kb.int, h1, by omega, by omega, ?_, fun t ht => k _ _ _ (Grow.mk1 s ht) (Rep.lst upd_same ((rep_all r1 _).mono (Grow.mk1 s ht).f))⟩)
    rw [sizeLine_eq, r1.length]
    exact Nat.le_trans (Nat.mul_le_mul h.2.2 (show _ ≤ 1000 by omega)) (by decide)
  · split at e <;> cases e
    rename_i h
    obtain ⟨p, vs, rfl, h1, r1⟩ := ka.tup s
    rename_i xs0 k0 _ _
    by_cases e0 : vs = []
    · subst e0
      cases r1
      refine .inr (.inr (.inr (.inl ⟨p, _, [], rfl, kb.int, h1, .inl rfl, by omega, by omega, k _ F H (Grow.refl s) ?_⟩)))
      rw [show (List.replicate (Int.toNat _) ([] : List D)).flatten = [] by simp]
      exact (RdD.tupS ka)
    · by_cases e1 : k0 = 1
      · subst e1
        refine .inr (.inr (.inr (.inl ⟨p, _, vs, rfl, kb.int, h1, .inr rfl, by omega, by omega, k _ F H (Grow.refl s) ?_⟩)))
        rw [show (List.replicate (Int.toNat 1) xs0).flatten = xs0 by simp]
        exact (RdD.tupS ka)
      · by_cases e2 : k0 = 0
        · subst e2
          refine .inr (.inr (.inr (.inr ⟨p, vs, rfl, kb.int, h1, e0, fun t ht => k _ _ _ (Grow.mk1 s ht) ?_⟩)))
          rw [show (List.replicate (Int.toNat 0) xs0).flatten = ([] : List D) by simp]
          exact Rep.tup (.of upd_same) .nil
        · refine .inr (.inr (.inl ⟨p, _, vs, rfl, kb.int, h1, e0, by omega, by omega, by rw [r1.length]; omega, fun t ht => k _ _ _ (Grow.mk1 s ht) (Rep.tup (.of upd_same) ((rep_all r1 _).mono (Grow.mk1 s ht).f))⟩))
  · cases e
def notInS (x xs : D) : Res D := match toPy x, toPy xs with
  | some p, some (.list ps) => if SeqAt.shaped p = true ∧ SeqAt.shaped (.list ps) = true then .ok (.bl (!ps.any fun z => PyData.eqv z p)) else .bad
  | _, _ => .bad
theorem notIn_ok : OpD (gOf X) (rNotInD X.K) .R .R .S notInS := fun F H x y a b d Q Ha Hb s ka kb e k => by
  unfold notInS at e
  split at e
  · rename_i p ps h1 h2
    split at e <;> cases e
    rename_i h
    exact ⟨p, ps, RdD.dp s (show RdD (gOf X) F H x a from ka) h1, RdD.dp s (show RdD (gOf X) F H y b from kb) h2, h.1, h.2, k _ F H (Grow.refl s) (.bl _)⟩
  · cases e
end
theorem ne_add : NoEr2 addD := fun a b e z => by unfold addD at z; split at z <;> (try split at z) <;> cases z
theorem ne_sub : NoEr2 subD := fun a b e z => by unfold subD at z; split at z <;> cases z
theorem ne_mul : NoEr2 mulD := fun a b e z => by unfold mulD at z; split at z <;> (try split at z) <;> cases z
theorem ne_mod : NoEr2 modD := fun a b e z => by unfold modD at z; split at z <;> (try split at z) <;> cases z
theorem ne_div : NoEr2 divD := fun a b e z => by unfold divD at z; split at z <;> (try split at z) <;> cases z
theorem ne_pow : NoEr2 powD := fun a b e z => by unfold powD at z; split at z <;> (try split at z) <;> cases z
theorem ne_shr : NoEr2 shrD := fun a b e z => by unfold shrD at z; split at z <;> (try split at z) <;> cases z
theorem ne_cmp {p : Int → Int → Bool} : NoEr2 (cmpD p) := fun a b e z => by unfold cmpD at z; split at z <;> cases z
theorem ne_eq : NoEr2 eqS := fun a b e z => by unfold eqS at z; split at z <;> (try split at z) <;> cases z
theorem ne_ne : NoEr2 neS := fun a b e z => by unfold neS at z; split at z <;> (try split at z) <;> cases z
theorem ne_isN : NoEr2 isN := fun a b e z => by unfold isN at z; split at z <;> cases z
theorem ne_notN : NoEr2 notN := fun a b e z => by unfold notN at z; split at z <;> cases z
theorem ne_notIn : NoEr2 notInS := fun a b e z => by unfold notInS at z; split at z <;> (try split at z) <;> cases z
section
variable {X : Cx} {W : Wi} {k : Nat} {a b c : Expr} {fa fb fc : Env → Res D} {pos : Pos}
theorem re_add (ha : RE X W .R a fa) (hb : RE X W .R b fb) : RE X W .S (.BinOp a .Add b pos) (fun r => fa r >>= fun x => fb r >>= fun y => addD x y) := re_op op_addA add_ok ne_add ha hb
theorem re_sub (ha : RE X W .R a fa) (hb : RE X W .R b fb) : RE X W .S (.BinOp a .Sub b pos) (fun r => fa r >>= fun x => fb r >>= fun y => subD x y) := re_op op_sub sub_ok ne_sub ha hb
theorem re_mul (ha : RE X W .R a fa) (hb : RE X W .R b fb) : RE X W .S (.BinOp a .Mult b pos) (fun r => fa r >>= fun x => fb r >>= fun y => mulD x y) := re_op op_mulA mul_ok ne_mul ha hb
theorem re_mod (ha : RE X W .R a fa) (hb : RE X W .R b fb) : RE X W .S (.BinOp a .Mod b pos) (fun r => fa r >>= fun x => fb r >>= fun y => modD x y) := re_op op_mod mod_ok ne_mod ha hb
theorem re_div (ha : RE X W .R a fa) (hb : RE X W .R b fb) : RE X W .S (.BinOp a .FloorDiv b pos) (fun r => fa r >>= fun x => fb r >>= fun y => divD x y) := re_op op_fdivW div_ok ne_div ha hb
theorem re_pow (ha : RE X W .R a fa) (hb : RE X W .R b fb) : RE X W .S (.BinOp a .Pow b pos) (fun r => fa r >>= fun x => fb r >>= fun y => powD x y) := re_op op_pow pow_ok ne_pow ha hb
theorem re_shr (ha : RE X W .R a fa) (hb : RE X W .R b fb) : RE X W .S (.BinOp a .RShift b pos) (fun r => fa r >>= fun x => fb r >>= fun y => shrD x y) := re_op op_shr shr_ok ne_shr ha hb
def ltD : D → D → Res D := cmpD fun i j => decide (i < j)
def leD : D → D → Res D := cmpD fun i j => decide (i ≤ j)
def gtD : D → D → Res D := cmpD fun i j => decide (j < i)
def geD : D → D → Res D := cmpD fun i j => decide (j ≤ i)
def asB : D → Res Bool
  | .bl b => .ok b
  | _ => .bad
/-- what a comparison by its sign is worth -/
structure Cmp (X : Cx) (o : CmpOp) (op : D → D → Res D) : Prop where
  ex : ∃ rr : R2, OpR X (compareOp o) rr ∧ OpD (gOf X) rr .R .R .S op
  ne : NoEr2 op
theorem c_lt : Cmp X .Lt ltD := ⟨⟨_, op_lt, cmp_ok⟩, ne_cmp⟩
theorem c_le : Cmp X .LtE leD := ⟨⟨_, op_le, cmp_ok⟩, ne_cmp⟩
theorem c_gt : Cmp X .Gt gtD := ⟨⟨_, op_gt, cmp_ok⟩, ne_cmp⟩
theorem c_ge : Cmp X .GtE geD := ⟨⟨_, op_ge, cmp_ok⟩, ne_cmp⟩
theorem c_isN : Cmp X .Is isN := ⟨⟨_, op_isN, isN_ok⟩, ne_isN⟩
theorem c_notN : Cmp X .IsNot notN := ⟨⟨_, op_notN, notN_ok⟩, ne_notN⟩
theorem units65 (hr : Room k X.A) : X.A.units + 65 < cLine := by have := hr.un; omega
theorem re_cp {o : CmpOp} {op : D → D → Res D} (C : Cmp X o op) (ha : RE X W .R a fa) (hb : RE X W .R b fb) (hm : behindInMarks o b = false := by first | exact nomark _ | rfl) : RE X W .S (.Compare a [o] [b] pos) (fun r => fa r >>= fun x => fb r >>= fun y => op x y) :=
  let ⟨_, h1, h2⟩ := C.ex
  re_cmp h1 h2 C.ne ha hb hm
theorem asB_er {d e : D} (h : asB d = .er e) : False := by unfold asB at h; split at h <;> cases h
/-- a truth as a test -/
theorem tB_of {t : TE} {f : Env → Res D} {G : GC} (σ : L2.St) (H : Hp) (Q : Bool → Hp → Prop) (i : ∀ R : VK, tE G W .S f σ H R → t σ H R) (h : tT G W (fun r => f r >>= asB) σ H Q) : tTest t σ H Q := by
  obtain ⟨H0, F0, fp, F, r, m, o⟩ := h
  refine i _ ⟨H0, F0, fp, F, r, m, o.bind fun F' H' d gr o2 v kv => ?_⟩
  cases e : asB d with
  | ok b =>
    rw [e] at o2
    unfold asB at e
    split at e <;> cases e
    cases kv
    exact ⟨b, rfl, o2 F' H' (Grow.refl gr.sub)⟩
  | er x => exact (asB_er e).elim
  | bad => rw [e] at o2; exact o2.elim
theorem rt_cp {o : CmpOp} {op : D → D → Res D} (C : Cmp X o op) (ha : RE X W .R a fa) (hb : RE X W .R b fb) (hm : behindInMarks o b = false := by first | exact nomark _ | rfl) : RT X W (.Compare a [o] [b] pos) (fun r => (fa r >>= fun x => fb r >>= fun y => op x y) >>= asB) :=
  let ⟨_, h1, h2⟩ := C.ex
  (pt_cmpR h1 ha hb hm).imp fun σ H Q h => tB_of σ H Q (fun R t => t_op h2 C.ne σ H R t) h
/-- an expression that is True or False as a test -/
theorem rt_val (ha : RE X W .S a fa) (he : ∀ whole, isTrue a X.env whole = (do let v ← whole; standAt a.pos; holding [v] (truthy v)) := by intro _; rfl) : RT X W a (fun r => fa r >>= asB) :=
  (pt_val ha he).imp fun σ H Q h => tB_of σ H Q (fun R t => t) h
theorem rt_not {f : Env → Res Bool} (ha : RT X W a f) : RT X W (.UnaryOp .Not a pos) (fun r => f r >>= fun t => .ok (!t)) :=
  (pt_not ha).imp fun σ H Q ⟨H0, F0, fp, F, r, m, o⟩ => ⟨H0, F0, fp, F, r, m, o.bind fun F' H' t gr o2 => o2 F' H' (Grow.refl gr.sub)⟩
abbrev RW (X : Cx) (W : Wi) (e : Expr) (f : Env → Res Bool) : Prop := PW X e (tT (gOf X) W f)
theorem rt_pw {f : Env → Res Bool} (h : RW X W a f) : RT X W a f := h.pt
theorem rw_and1 {f : Env → Res Bool} (ha : RT X W a f) : RW X W (.BoolOp .And [a] pos) f := pw_and1 ha
theorem rw_or1 {f : Env → Res Bool} (ha : RT X W a f) : RW X W (.BoolOp .Or [a] pos) f := pw_or1 ha
theorem rw_and {rest : List Expr} {f g : Env → Res Bool} (ha : RT X W a f) (hb : RW X W (.BoolOp .And (b :: rest) pos) g) : RW X W (.BoolOp .And (a :: b :: rest) pos) (fun r => f r >>= fun t => if t = true then g r else .ok false) :=
  (pw_and ha hb).imp fun σ H Q ⟨H0, F0, fp, F, r, m, o⟩ => ⟨H0, F0, fp, F, r, m, o.bind fun F' H' t gr o2 => by
    cases t with
    | true => exact ⟨H0, F0, fp, F', r, m.grow gr, o2⟩
    | false => exact o2 F' H' (Grow.refl gr.sub)⟩
theorem rw_or {rest : List Expr} {f g : Env → Res Bool} (ha : RT X W a f) (hb : RW X W (.BoolOp .Or (b :: rest) pos) g) : RW X W (.BoolOp .Or (a :: b :: rest) pos) (fun r => f r >>= fun t => if t = true then .ok true else g r) :=
  (pw_or ha hb).imp fun σ H Q ⟨H0, F0, fp, F, r, m, o⟩ => ⟨H0, F0, fp, F, r, m, o.bind fun F' H' t gr o2 => by
    cases t with
    | true => exact o2 F' H' (Grow.refl gr.sub)
    | false => exact ⟨H0, F0, fp, F', r, m.grow gr, o2⟩⟩
theorem re_one {op : BoolOp} (h : RE X W .S a fa) : RE X W .S (.BoolOp op [a] pos) fa := pe_one h
theorem re_and {rest : List Expr} (ha : RE X W .S a fa) (hb : RE X W .S (.BoolOp .And (b :: rest) pos) fb) : RE X W .S (.BoolOp .And (a :: b :: rest) pos) (fun r => (fa r >>= asB) >>= fun t => if t = true then fb r else .ok (.bl false)) :=
  (pe_and ha hb).imp fun σ H Q ⟨H0, F0, fp, F, r, m, o⟩ => by
    have z := tB_of (t := tE (gOf X) W .S fa) (f := fa) σ H (fun t H1 => if t = true then tE (gOf X) W .S fb σ H1 Q else Q (.bl false) H1) (fun R t => t) ⟨H0, F0, fp, F, r, m, o.bind fun F' H' t gr o2 => by
      cases t with
      | true => rw [if_pos rfl] at o2 ⊢; exact ⟨H0, F0, fp, F', r, m.grow gr, o2.imp fun F2 H2 d g2 p v kv => p v kv⟩
      | false => exact o2 F' H' (Grow.refl gr.sub) _ (Rep.bl false)⟩
    exact z
theorem re_not (ha : RE X W .S a fa) : RE X W .S (.UnaryOp .Not a pos) (fun r => (fa r >>= asB) >>= fun t => .ok (.bl (!t))) :=
  (pe_not ha).imp fun σ H Q ⟨H0, F0, fp, F, r, m, o⟩ => by
    have z := tB_of (t := tE (gOf X) W .S fa) (f := fa) σ H (fun t H1 => Q (.bl (!t)) H1) (fun R t => t) ⟨H0, F0, fp, F, r, m, o.bind fun F' H' t gr o2 => o2 F' H' (Grow.refl gr.sub) _ (Rep.bl _)⟩
    exact z
@[simp] def negD : D → Res D
  | .int i => .ok (.int (-i))
  | _ => .bad
theorem re_neg (ha : RE X W .R a fa) : RE X W .S (.UnaryOp .USub a pos) (fun r => fa r >>= negD) :=
  (pe_un un_neg ha).imp fun σ H Q ⟨H0, F0, fp, F, r, m, o⟩ => ⟨H0, F0, fp, F, r, m, o.bind fun F' H' d gr o2 v kv => by
    cases d with
    | int i => exact ⟨i, RdD.int kv, o2 F' H' (Grow.refl gr.sub) _ (Rep.int _)⟩
    | _ => exact o2.elim⟩
end
end Mir
namespace Mir
open PySem PySem.Spec PyProof.Rows L2
variable [Tn]
def ixS : D → D → Res D
  | .lst xs, .int i => match atI xs i with
    | some d => .ok d
    | none => .bad
  | .tup xs, .int i => match atI xs i with
    | some d => .ok d
    | none => .bad
  | .scr ns, .int i => match atI ns i with
    | some n => .ok (.int n)
    | none => .bad
  | .str z, .int i => if z.length ≤ lim then (match atI z.cps.toList i with
    | some c => .ok (.str ⟨#[c]⟩)
    | none => .bad) else .bad
  | _, _ => .bad
theorem atI_rep {G : GC} {F : Hp} {vs : List V} {ds : List D} {i : Int} {d : D} (r : RepAll G F vs ds) (h : atI ds i = some d) : ∃ v, atI vs i = some v ∧ Rep G F v d := by
  unfold atI at h ⊢
  rw [r.length]
  cases e : ixN ds.length i with
  | none => rw [e] at h; cases h
  | some j =>
    rw [e] at h
    exact r.get h
theorem atI_map {ns : List Int} {i n : Int} (h : atI ns i = some n) : atI (ns.map V.int) i = some (.int n) := by
  unfold atI at h ⊢
  rw [List.length_map]
  cases e : ixN ns.length i with
  | none => rw [e] at h; cases h
  | some j =>
    rw [e] at h
    show (ns.map V.int)[j]? = _
    rw [List.getElem?_map, show ns[j]? = some n from h]
    rfl
section
variable {X : Cx} {W : Wi} {k : Nat} {a b c e : Expr} {es : List Expr} {fa fb fc fe : Env → Res D} {p pos apos cpos : Pos}
theorem ix_ok : OpD (gOf X) (rIx X.K) .R .R .S ixS := fun F H x y a b d Q Ha Hb s ka kb e k => by
  have ka : RdD (gOf X) F H x a := ka
  have kb : RdD (gOf X) F H y b := kb
  unfold ixS at e
  split at e
  · split at e <;> cases e
    rename_i h
    obtain ⟨q, vs, rfl, h1, r1⟩ := ka.lst s
    obtain ⟨v, hv, rv⟩ := atI_rep r1 h
    exact .inl ⟨q, vs, _, v, rfl, kb.int, .of h1, hv, k _ F H (Grow.refl s) rv⟩
  · split at e <;> cases e
    rename_i h
    obtain ⟨q, vs, rfl, h1, r1⟩ := ka.tup s
    obtain ⟨v, hv, rv⟩ := atI_rep r1 h
    exact .inr (.inl ⟨q, vs, _, v, rfl, kb.int, h1, hv, k _ F H (Grow.refl s) rv⟩)
  · split at e <;> cases e
    rename_i h
    obtain ⟨q, rfl, h1⟩ := ka.scr s
    exact .inl ⟨q, _, _, _, rfl, kb.int, h1, atI_map h, k _ F H (Grow.refl s) (.int _)⟩
  · split at e
    · rename_i hl
      split at e <;> cases e
      rename_i h
      exact .inr (.inr ⟨_, _, _, ka.str, kb.int, Nat.le_trans hl lim_le, h, k _ F H (Grow.refl s) (.str _)⟩)
    · cases e
  · cases e
theorem ne_ix : NoEr2 ixS := fun a b e z => by
  unfold ixS at z
  split at z
  · split at z <;> cases z
  · split at z <;> cases z
  · split at z <;> cases z
  · split at z
    · split at z <;> cases z
    · cases z
  · cases z
def cutD (xs : List D) (lo hi : Option Int) : List D := (xs.drop (HT.sIx xs.length 0 lo)).take (HT.sIx xs.length xs.length hi - HT.sIx xs.length 0 lo)
@[simp] def asI : D → Res Int
  | .int i => .ok i
  | _ => .bad
def sliceD (d : D) (lo hi : Option Int) : Res D := match d with
  | .lst xs => .ok (.lst (cutD xs lo hi))
  | .tup xs => .ok (.tup (cutD xs lo hi))
  | .str z => if z.length ≤ lim then .ok (.str (cutS z lo hi)) else .bad
  | _ => .bad
theorem RepAll.cut {G : GC} {F : Hp} {vs : List V} {ds : List D} (r : RepAll G F vs ds) (lo hi : Option Int) : RepAll G F (cutV vs lo hi) (cutD ds lo hi) := by
  unfold cutV cutD
  rw [r.length]
  exact (r.drop _).take _
/-- a part of a slice -/
def tP (G : GC) (W : Wi) (f : Env → Res (Option Int)) : TO := fun σ H Q => ∃ H0 F0 fp F r, MS G W.J H0 F0 fp F σ H r ∧ Out G W σ F H (fun F' H' o => Q o H') (f r)
abbrev RP (X : Cx) (W : Wi) (e : Option Expr) (f : Env → Res (Option Int)) : Prop := PO X e (tP (gOf X) W f)
theorem PO.imp {X : Cx} {e : Option Expr} {t t' : TO} (h : PO X e t) (i : ∀ σ H Q, t' σ H Q → t σ H Q) : PO X e t' := ⟨fun pins s σ H Q I hw => h.run pins s σ H Q I (i σ H Q hw)⟩
theorem rp_none : RP X W none (fun _ => .ok none) := PO.imp po_none fun σ H Q ⟨H0, F0, fp, F, r, m, o⟩ => o F H (Grow.refl m.sub)
theorem rp_some (he : RE X W .R e fe) : RP X W (some e) (fun r => fe r >>= fun d => asI d >>= fun i => .ok (some i)) := PO.imp (po_some he) fun σ H Q ⟨H0, F0, fp, F, r, m, o⟩ => ⟨H0, F0, fp, F, r, m, o.bind fun F' H' d gr o2 v kv => by
  cases d with
  | int i => exact ⟨i, RdD.int kv, o2 F' H' (Grow.refl gr.sub)⟩
  | _ => exact o2.elim⟩
def rSlAll (K : PySem.W.Frag) : V → Option Int → Option Int → Hp → VK → Prop := fun x lo hi H Q => rSlL K x lo hi H Q ∨ (rSlA K x lo hi H Q ∨ ∃ z, x = .str z ∧ z.length ≤ sizeLine ∧ Q (.str (cutS z lo hi)) H)
theorem t_slice {f1 f2 : Env → Res (Option Int)} {Kk : Kd} {op : D → Option Int → Option Int → Res D} (ne : ∀ d lo hi e, op d lo hi ≠ .er e) {rr : V → Option Int → Option Int → Hp → VK → Prop}
    (ok : ∀ F H x a lo hi d (Q : VK), Same F H → RdD (gOf X) F H x a → op a lo hi = .ok d → (∀ v F' H', Grow F H F' H' → Kk.Rep (gOf X) H F' H' v d → Q v H') → rr x lo hi H Q)
    (σ : L2.St) (H : Hp) (Q : VK) (t : tE (gOf X) W Kk (fun r => fa r >>= fun d => f1 r >>= fun lo => f2 r >>= fun hi => op d lo hi) σ H Q) : tSl rr (tE (gOf X) W .R fa) (tP (gOf X) W f1) (tP (gOf X) W f2) σ H Q := by
  obtain ⟨H0, F0, fp, F, r, m, o⟩ := t
  refine ⟨H0, F0, fp, F, r, m, o.bind fun F1 H1 d g1 o1 v kv => ⟨H0, F0, fp, F1, r, m.grow g1, o1.bind fun F2 H2 lo g2 o2 => ⟨H0, F0, fp, F2, r, (m.grow g1).grow g2, o2.bind fun F3 H3 hi g3 o3 => ?_⟩⟩⟩
  cases e : op d lo hi with
  | ok d' =>
    rw [e] at o3
    exact ok F3 H3 v d lo hi d' Q g3.sub (RdD.grow (show RdD (gOf X) F1 H1 v d from kv) (g2.trans g3)) e fun v' F' H' g q => o3 F' H' g v' (q.later (g1.h.trans (g2.h.trans g3.h)).fre)
  | er x => exact (ne _ _ _ _ e).elim
  | bad => rw [e] at o3; exact o3.elim
theorem re_slice {f1 f2 : Env → Res (Option Int)} {lo hi : Option Expr} {p2 : Pos} (ha : RE X W .R a fa) (hl : RP X W lo f1) (hh : RP X W hi f2) : RE X W .S (.Subscript a (.Slice lo hi none p2) pos) (fun r => fa r >>= fun d => f1 r >>= fun lo => f2 r >>= fun hi => sliceD d lo hi) :=
  (pe_slice (r := rSlAll X.K) (sl_list.or (sl_tupA.or sl_str)) ha hl hh).imp (t_slice (fun d lo hi e z => by unfold sliceD at z; split at z <;> (try split at z) <;> cases z) fun F H x a lo hi d Q s ka e k => by
    unfold sliceD at e
    split at e
    · cases e
      obtain ⟨q, vs, rfl, h1, r1⟩ := ka.lst s
      exact .inl ⟨q, vs, rfl, .of h1, fun t ht => k _ _ _ (Grow.mk1 s ht) (Rep.lst upd_same ((r1.cut lo hi).mono (Grow.mk1 s ht).f))⟩
    · cases e
      obtain ⟨q, vs, rfl, h1, r1⟩ := ka.tup s
      refine .inr (.inl ⟨q, vs, rfl, h1, fun w => ?_, fun _ t ht => k _ _ _ (Grow.mk1 s ht) (Rep.tup (.of upd_same) ((r1.cut lo hi).mono (Grow.mk1 s ht).f))⟩)
      rename_i ds
      have e : cutD ds lo hi = ds := by
        unfold cutD
        rw [r1.length] at w
        rw [w.1, w.2]
        simp
      rw [e] at k
      exact k _ F H (Grow.refl s) ka.tupS
    · split at e <;> cases e
      rename_i h
      exact .inr (.inr ⟨_, ka.str, Nat.le_trans h lim_le, k _ F H (Grow.refl s) (.str _)⟩)
    · cases e)
theorem re_tup {x1} {f : Env → Res (List D)} (ha : RA X W es f) : RE X W .S (.Tuple es x1 pos) (fun r => f r >>= fun ds => if ds.length ≤ lim then .ok (.tup ds) else .bad) :=
  (pe_tup ha).imp fun σ H Q ⟨H0, F0, fp, F, r, m, o⟩ => ⟨H0, F0, fp, F, r, m, o.bind fun F' H' ds gr o2 vs rv => by
    split at o2
    · rename_i h
      exact ⟨Nat.le_trans (by rw [rv.length]; exact h) lim_le, fun t ht => o2 _ _ (Grow.mk1 gr.sub ht) _ (Rep.tup (.of upd_same) (rv.mono (Grow.mk1 gr.sub ht).f))⟩
    · exact o2.elim⟩
theorem re_lst {f : Env → Res (List D)} (ha : RA X W es f) : RE X W (.O .flat) (.List es pos) (fun r => f r >>= fun ds => if ds.length ≤ lim then .ok (.lst ds) else .bad) :=
  (pe_lst ha).imp fun σ H Q ⟨H0, F0, fp, F, r, m, o⟩ => ⟨H0, F0, fp, F, r, m, o.bind fun F' H' ds gr o2 vs rv => by
    split at o2
    · rename_i h
      exact ⟨Nat.le_trans (by rw [rv.length]; exact h) lim_le, fun t ht => o2 _ _ (Grow.own gr.sub ht) _ ⟨[t], Own.lst rfl upd_same (gr.sub.free ht) (OwnAll.of_rep rv) (by simp), fun a ha => by rw [List.mem_singleton.mp ha]; exact gr.h.free ht⟩⟩
    · exact o2.elim⟩
end
end Mir
namespace Mir
open PySem PySem.Spec PyProof.Rows L2
variable [Tn]
inductive RdAll (G : GC) (F H : Hp) : List V → List D → Prop
  | nil : RdAll G F H [] []
  | cons {v : V} {d : D} {vs : List V} {ds : List D} : RdD G F H v d → RdAll G F H vs ds → RdAll G F H (v :: vs) (d :: ds)
def tAR (G : GC) (W : Wi) (f : Env → Res (List D)) : TA := fun σ H Q => ∃ H0 F0 fp F r, MS G W.J H0 F0 fp F σ H r ∧ Out G W σ F H (fun F' H' ds => ∀ vs, RdAll G F' H' vs ds → Q vs H') (f r)
/-- arguments to be read -/
abbrev RAR (X : Cx) (W : Wi) (es : List Expr) (f : Env → Res (List D)) : Prop := PA X es (tAR (gOf X) W f)
def CalD (G : GC) (rr : List V → Hp → VK → Prop) (k : Kd) (op : List D → Res D) : Prop := ∀ (F H : Hp) (vs : List V) (ds : List D) (d : D) (Q : VK), Same F H → RdAll G F H vs ds → op ds = .ok d → (∀ v F' H', Grow F H F' H' → k.Rep G H F' H' v d → Q v H') → rr vs H Q
def NoErL (op : List D → Res D) : Prop := ∀ ds e, op ds ≠ .er e
/-- a built-in by its name -/
structure BlM (X : Cx) (x : Str) (k : Kd) (op : List D → Res D) : Prop where
  mg : X.mg x = none
  ex : ∃ rr : List V → Hp → VK → Prop, CalD (gOf X) rr k op ∧ ((∃ id, bootBuiltins x = some (.builtin id) ∧ CallR X (.builtin id) rr) ∨ ∃ T, bootBuiltins x = some (.type T) ∧ CallR X (.type T) rr)
  ne : NoErL op
  n1 : x ≠ "__name__"
  n2 : (x == ("__debug__" : Str)) = false
section
variable {X : Cx} {W : Wi} {k : Kd} {e : Expr} {es : List Expr} {fe : Env → Res D} {p pos : Pos}
theorem rar_nil : RAR X W [] (fun _ => .ok []) := pa_nil.imp fun σ H Q ⟨H0, F0, fp, F, r, m, o⟩ => o F H (Grow.refl m.sub) [] .nil
theorem RdAll.grow {G : GC} {F H F' H' : Hp} (g : Grow F H F' H') : ∀ {vs : List V} {ds : List D}, RdAll G F H vs ds → RdAll G F' H' vs ds
  | _, _, .nil => .nil
  | _, _, .cons r t => .cons (r.grow g) (RdAll.grow g t)
theorem rar_cons {g : Env → Res (List D)} (he : RE X W .R e fe) (hr : RAR X W es g) (hs : starEach (e :: es) X.env = (false, eval e X.env) :: starEach es X.env := by rfl) :
    RAR X W (e :: es) (fun r => fe r >>= fun d => g r >>= fun ds => .ok (d :: ds)) :=
  (pa_cons he hr hs).imp fun σ H Q ⟨H0, F0, fp, F, r, m, o⟩ => ⟨H0, F0, fp, F, r, m, o.bind fun F1 H1 d g1 o1 v kv =>
    ⟨H0, F0, fp, F1, r, m.grow g1, o1.bind fun F2 H2 ds g2 o2 vs rv => o2 F2 H2 (Grow.refl g2.sub) (v :: vs) (.cons (RdD.grow kv g2) rv)⟩⟩
theorem t_bl {rr : List V → Hp → VK → Prop} {op : List D → Res D} (h : CalD (gOf X) rr k op) (ne : NoErL op) {fa : Env → Res (List D)} (σ : L2.St) (H : Hp) (Q : VK) (t : tE (gOf X) W k (fun r => fa r >>= op) σ H Q) : tCB rr (tAR (gOf X) W fa) σ H Q := by
  obtain ⟨H0, F0, fp, F, r, m, o⟩ := t
  refine ⟨H0, F0, fp, F, r, m, o.bind fun F' H' ds gr o2 vs rv => ?_⟩
  cases z : op ds with
  | ok d =>
    rw [z] at o2
    exact h F' H' vs ds d Q gr.sub rv z fun v F2 H2 g kv => o2 F2 H2 g v (kv.later gr.h.fre)
  | er x => exact (ne _ _ z).elim
  | bad => rw [z] at o2; exact o2.elim
theorem re_blt {x : Str} {op : List D → Res D} {fa : Env → Res (List D)} (B : BlM X x k op) (ha : RAR X W (e :: es) fa) (hg : Gl X x := by rfl) (he : starEach (e :: es) X.env = (false, eval e X.env) :: starEach es X.env := by rfl) (hpl : (backTo pos (starEach es X.env)).any (·.1) = false := by rfl) :
    RE X W k (.Call (.Name x p) (e :: es) [] pos) (fun r => fa r >>= op) := by
  obtain ⟨rr, hc, ⟨id, hv, hr⟩ | ⟨T, hv, hr⟩⟩ := B.ex
  · exact (pe_callB hr hg B.mg hv ha B.n1 B.n2 he hpl).imp (t_bl hc B.ne)
  · exact (pe_callTy hr hg B.mg hv ha B.n1 B.n2 he hpl).imp (t_bl hc B.ne)
theorem BlM.b {x : Str} {id : String} {rr : List V → Hp → VK → Prop} {op : List D → Res D} (hm : X.mg x = none) (hv : bootBuiltins x = some (.builtin id)) (hr : CallR X (.builtin id) rr) (ne : NoErL op) (c : CalD (gOf X) rr k op) (n1 : x ≠ "__name__" := by decide) (n2 : (x == ("__debug__" : Str)) = false := by decide) : BlM X x k op :=
  ⟨hm, ⟨rr, c, .inl ⟨id, hv, hr⟩⟩, ne, n1, n2⟩
theorem BlM.t {x : Str} {T : String} {rr : List V → Hp → VK → Prop} {op : List D → Res D} (hm : X.mg x = none) (hv : bootBuiltins x = some (.type T)) (hr : CallR X (.type T) rr) (ne : NoErL op) (c : CalD (gOf X) rr k op) (n1 : x ≠ "__name__" := by decide) (n2 : (x == ("__debug__" : Str)) = false := by decide) : BlM X x k op :=
  ⟨hm, ⟨rr, c, .inr ⟨T, hv, hr⟩⟩, ne, n1, n2⟩
@[simp] def one (f : D → Res D) : List D → Res D
  | [d] => f d
  | _ => .bad
@[simp] def two (f : D → D → Res D) : List D → Res D
  | [d, e] => f d e
  | _ => .bad
def noEr1 (f : D → Res D) : Prop := ∀ d e, f d ≠ .er e
theorem ne_one {f : D → Res D} (h : noEr1 f) : NoErL (one f) := fun ds e z => by
  unfold one at z
  split at z
  · exact h _ _ z
  · cases z
theorem ne_two {f : D → D → Res D} (h : NoEr2 f) : NoErL (two f) := fun ds e z => by
  unfold two at z
  split at z
  · exact h _ _ _ z
  · cases z
theorem cal_one {G : GC} {rr : List V → Hp → VK → Prop} {f : D → Res D} (h : ∀ (F H : Hp) (x : V) (a d : D) (Q : VK), Same F H → RdD G F H x a → f a = .ok d → (∀ v F' H', Grow F H F' H' → k.Rep G H F' H' v d → Q v H') → rr [x] H Q) : CalD G rr k (one f) := fun F H vs ds d Q s r e q => by
  unfold one at e
  split at e
  · cases r with
    | cons r1 rn =>
      cases rn
      exact h F H _ _ d Q s r1 e q
  · cases e
theorem cal_two {G : GC} {rr : List V → Hp → VK → Prop} {f : D → D → Res D} (h : ∀ (F H : Hp) (x y : V) (a b d : D) (Q : VK), Same F H → RdD G F H x a → RdD G F H y b → f a b = .ok d → (∀ v F' H', Grow F H F' H' → k.Rep G H F' H' v d → Q v H') → rr [x, y] H Q) : CalD G rr k (two f) := fun F H vs ds d Q s r e q => by
  unfold two at e
  split at e
  · cases r with
    | cons r1 rn =>
      cases rn with
      | cons r2 rn =>
        cases rn
        exact h F H _ _ _ _ d Q s r1 r2 e q
  · cases e
@[simp] def tupleD : D → Res D
  | .lst xs => .ok (.tup xs)
  | .tup xs => .ok (.tup xs)
  | _ => .bad
@[simp] def listD : D → Res D
  | .lst xs => .ok (.lst xs)
  | .tup xs => .ok (.lst xs)
  | _ => .bad
theorem b_tuple (hm : X.mg "tuple" = none) : BlM X "tuple" .S (one tupleD) := BlM.t hm boot_tuple (call_tuple_of) (ne_one fun d e z => by unfold tupleD at z; split at z <;> cases z) (cal_one fun F H x a d Q s ra e q => by
  unfold tupleD at e
  split at e <;> cases e
  · obtain ⟨p, vs, rfl, h1, r1⟩ := ra.lst s
    exact ⟨p, vs, rfl, .inl ⟨.of h1, fun t ht => q _ _ _ (Grow.mk1 s ht) (Rep.tup (.of upd_same) (r1.mono (Grow.mk1 s ht).f))⟩⟩
  · obtain ⟨p, vs, rfl, h1, r1⟩ := ra.tup s
    exact ⟨p, vs, rfl, .inr ⟨h1, q _ F H (Grow.refl s) ra.tupS⟩⟩)
theorem b_list (hm : X.mg "list" = none) : BlM X "list" (.O .flat) (one listD) := BlM.t hm boot_list (call_list_of) (ne_one fun d e z => by unfold listD at z; split at z <;> cases z) (cal_one fun F H x a d Q s ra e q => by
  unfold listD at e
  split at e <;> cases e
  · obtain ⟨p, vs, rfl, h1, r1⟩ := ra.lst s
    exact ⟨p, vs, rfl, .inl (.of h1), fun t ht => q _ _ _ (Grow.own s ht) ⟨[t], Own.lst rfl upd_same (s.free ht) (OwnAll.of_rep r1) (by simp), fun a ha => by rw [List.mem_singleton.mp ha]; exact ht⟩⟩
  · obtain ⟨p, vs, rfl, h1, r1⟩ := ra.tup s
    exact ⟨p, vs, rfl, .inr h1, fun t ht => q _ _ _ (Grow.own s ht) ⟨[t], Own.lst rfl upd_same (s.free ht) (OwnAll.of_rep r1) (by simp), fun a ha => by rw [List.mem_singleton.mp ha]; exact ht⟩⟩)
def maxD : D → D → Res D
  | .int i, .int j => .ok (.int (if j > i then j else i))
  | _, _ => .bad
theorem b_max (hc : X.calm = true) (hm : X.mg "max" = none) : BlM X "max" .S (two maxD) := BlM.b hm boot_max (call_max2 hc) (ne_two (fun a b e z => by unfold maxD at z; split at z <;> cases z)) (cal_two fun F H x y a b d Q s ra rb e q => by
  unfold maxD at e
  split at e <;> cases e
  exact ⟨_, _, by rw [ra.int, rb.int], q _ F H (Grow.refl s) (Rep.int _)⟩)
def asInts : List D → Option (List Int)
  | [] => some []
  | .int i :: ds => (asInts ds).map (i :: ·)
  | _ :: _ => none
def sumD : D → Res D
  | .scr ns => .ok (.int ns.sum)
  | .lst ds => match asInts ds with
    | some ns => .ok (.int ns.sum)
    | none => .bad
  | _ => .bad
end
end Mir
namespace Mir
open PySem PySem.Spec PyProof.Rows L2
variable [Tn]
section
variable {G : GC} {J : L2.St → Prop} {H0 F0 F H : Hp} {fp : Nat → List Addr} {σ : L2.St} {r : Env}
theorem MS.lst (m : MS G J H0 F0 fp F σ H r) {i : Nat} {ds : List D} (h : r[i]? = some (.ow .flat (.lst ds))) : ∃ a vs, σ[i]? = some (some (.ref a)) ∧ H a = some (.lst vs) ∧ RepAll G F vs ds ∧ fp i = [a] := by
  obtain ⟨⟨v, h1, h2⟩, _⟩ := m.ow i _ _ h
  generalize fp i = A at h2
  cases h2 with
  | lst _ e _ ra na =>
    obtain ⟨rfl, rr⟩ := ra.to_rep
    exact ⟨_, _, h1, e, rr, rfl⟩
/-- an owned list is changed -/
theorem MS.lstUpd (m : MS G J H0 F0 fp F σ H r) {i : Nat} {ds ds' : List D} {a : Addr} {vs' : List V} (h : r[i]? = some (.ow .flat (.lst ds))) (hv : σ[i]? = some (some (.ref a))) (hf : fp i = [a]) (rr : RepAll G F vs' ds') :
    ∃ fp', MS G J H0 F0 fp' F σ (upd H a (.lst vs')) (r.set i (.ow .flat (.lst ds'))) := by
  obtain ⟨⟨v, h1, h2⟩, _⟩ := m.ow i _ _ h
  have fa := (h2.there a (by rw [hf]; simp)).1
  exact m.write (A := [a]) h hv (by rw [hf]; simp) (Own.lst rfl upd_same fa (OwnAll.of_rep rr) (by simp)) fun b hb => .inl (by rw [hf]; exact hb)
end
/-- the list that the i-th name owns -/
def ownL (i : Nat) (r : Env) : Option (List D) := match r[i]? with
  | some (.ow .flat (.lst ds)) => some ds
  | _ => none
theorem ownL_some {i : Nat} {r : Env} {ds : List D} (h : ownL i r = some ds) : r[i]? = some (.ow .flat (.lst ds)) := by
  unfold ownL at h
  split at h
  · rename_i e; cases h; exact e
  · cases h
def extG (i : Nat) (f : Env → Res D) (r : Env) : Oc := match ownL i r with
  | some ds => lift (f r) r fun d => match d with
    | .lst es => if ds.length + es.length ≤ lim then .nx (r.set i (.ow .flat (.lst (ds ++ es)))) else .bad
    | _ => .bad
  | none => .bad
def clrLG (i : Nat) (r : Env) : Oc := match ownL i r with
  | some _ => .nx (r.set i (.ow .flat (.lst [])))
  | none => .bad
section
variable {X : Cx} {W : Wi} {k : Kd} {e : Expr} {fe : Env → Res D} {pos apos cpos ps : Pos} {x : Str}
theorem rs_extend (i : Nat) (he : RE X W .S e fe) (hN : X.N[i]? = some x := by rfl) (hv : Vis X.env.scope x := by first | exact Or.inl rfl | exact Or.inr (Or.inl rfl) | exact Or.inr (Or.inr rfl)) (hd : (x == ("__debug__" : Str)) = false := by decide)
    (hcd : (x == ("__classdict__" : Str)) = false := by decide) (hs : swapsWith (.Call (.Attribute (.Name x ps) "extend" apos) [e] [] cpos) none pos.line X.env = pure false := by rfl)
    (hbase : attributeBase (.Name x ps) "extend" X.env (eval (.Name x ps) X.env) = eval (.Name x ps) X.env := by rfl)
    (hfew : ((backTo cpos (starEach [e] X.env)).all (fun x => !x.1) && (backToKw cpos (keywordEach [] X.env)).all (fun x => x.1.isSome) && decide ([e].length + ([] : List Keyword).length + (if ([] : List Keyword).isEmpty then 0 else 1) < 30)) = true := by rfl)
    (hline : (apos.endLine == cpos.line) = true := by rfl) (hse : starEach [e] X.env = (false, eval e X.env) :: starEach [] X.env := by rfl) :
    RS X W k (.Expr (.Call (.Attribute (.Name x ps) "extend" apos) [e] [] cpos) pos) (extG i fe) :=
  (ps_expr (pe_bm PySem.F.plainAttrs_list PySem.F.slot_list_extend PySem.F.type_list_extend mt_extend (pe_var hN hv hd hcd) (pa_cons he pa_nil hse) hbase hfew hline hse (by rfl)) hs).imp fun D σ H ⟨H0, F0, fp, F, r, m, o⟩ => by
    unfold extG at o
    split at o
    · rename_i ds ho
      have hi := ownL_some ho
      obtain ⟨a, vs, h1, h2, h3, h4⟩ := m.lst hi
      refine ⟨.ref a, h1, Or.inl ⟨rfl, _, .of h2⟩, H0, F0, fp, F, r, m, o.lift m fun F' H' d gr o' v kv => ?_⟩
      split at o'
      · rename_i es
        split at o'
        · rename_i hl
          have kv' : Rep (gOf X) F' v (.lst es) := kv
          cases kv' with
          | @lst b ws _ hb rb =>
            obtain ⟨fp', m'⟩ := (m.grow gr).lstUpd hi h1 h4 ((h3.mono gr.f).append rb)
            exact ⟨a, b, vs, ws, rfl, rfl, gr.h.at _ _ h2, gr.sub _ _ hb, Nat.le_trans (by rw [h3.length, rb.length]; exact hl) lim_le, o' fp' F' σ _ (Same.refl _) m'⟩
        · exact o'.elim
      · exact o'.elim
    · exact o.elim
theorem rs_clearL (i : Nat) (hN : X.N[i]? = some x := by rfl) (hv : Vis X.env.scope x := by first | exact Or.inl rfl | exact Or.inr (Or.inl rfl) | exact Or.inr (Or.inr rfl)) (hd : (x == ("__debug__" : Str)) = false := by decide)
    (hcd : (x == ("__classdict__" : Str)) = false := by decide) (hs : swapsWith (.Call (.Attribute (.Name x ps) "clear" apos) [] [] cpos) none pos.line X.env = pure false := by rfl)
    (hbase : attributeBase (.Name x ps) "clear" X.env (eval (.Name x ps) X.env) = eval (.Name x ps) X.env := by rfl) (hline : (apos.endLine == cpos.line) = true := by rfl) :
    RS X W k (.Expr (.Call (.Attribute (.Name x ps) "clear" apos) [] [] cpos) pos) (clrLG i) :=
  (ps_expr (pe_bm0 PySem.F.plainAttrs_list PySem.F.slot_list_clear PySem.F.type_list_clear mt_clear (pe_var hN hv hd hcd) hbase hline) hs).imp fun D σ H ⟨H0, F0, fp, F, r, m, o⟩ => by
    unfold clrLG at o
    split at o
    · rename_i ds ho
      have hi := ownL_some ho
      obtain ⟨a, vs, h1, h2, h3, h4⟩ := m.lst hi
      obtain ⟨fp', m'⟩ := m.lstUpd hi h1 h4 RepAll.nil
      exact ⟨.ref a, h1, Or.inl ⟨rfl, _, .of h2⟩, a, vs, rfl, rfl, h2, o fp' F σ _ (Same.refl _) m'⟩
    · exact o.elim
theorem re_gInt {i : Int} {t : Tok} (hm : X.mg x = some (.int i t)) (hg : Gl X x := by rfl) (hd : (x == ("__debug__" : Str)) = false := by decide) : RE X W .S (.Name x pos) (fun _ => .ok (.int i)) := re_cst (pe_glob (v := .int i) hg hm ⟨t, rfl⟩ hd) fun _ => .int i
/-- a class of one's own -/
theorem re_cls {c : Nat} {C : Addr} (hm : X.mg x = some (.ref C)) (hx : x = cname c := by rfl) (hg : Gl X x := by rfl) (hd : (x == ("__debug__" : Str)) = false := by decide) : RE X W .S (.Name x pos) (fun _ => .ok (.cls c)) := by
  subst hx
  exact re_cst (pe_glob (v := .ref C) hg hm rfl hd) fun _ => .cls hm
/-- a built-in type as a value -/
theorem re_ty {T : String} (hm : X.mg x = none) (hv : bootBuiltins x = some (.type T)) (hg : Gl X x := by rfl) (hn : x ≠ "__name__" := by decide) (hd : (x == ("__debug__" : Str)) = false := by decide) : RE X W .S (.Name x pos) (fun _ => .ok (.ty T)) :=
  re_cst (pe_bltn (v := .ty T) hg hm hv rfl hn hd) fun _ => .ty T
end
end Mir
namespace Mir
open PySem PySem.Spec PyProof.Rows L2
variable [Tn]
theorem WalkD.of_walk {G : GC} {F B : Hp} {J : It} {ds : List D} {n : Nat} {g : Hp → Prop} {Y : Nat → Hp → V → Hp → Prop} (w : Walk J n g Y) (hn : n = ds.length) (hg : ∀ H, Same B H → g H)
    (hy : ∀ (i : Nat) F2 H2 x H3, i < ds.length → Same F F2 → Same F2 H2 → Same B H2 → Y i H2 x H3 → ∃ F3 d, Grow F2 H2 F3 H3 ∧ ds[i]? = some d ∧ Rep G F3 x d) : WalkD G F B J ds := by
  subst hn
  exact ⟨fun i H hi s => w.goes i H hi (hg H s), fun H s => w.stops H (hg H s), fun i F2 H2 x H3 hi s1 s2 s3 y => hy i F2 H2 x H3 hi s1 s2 s3 (w.yields i H2 x H3 hi (hg H2 s3) y)⟩
theorem WalkD.list {G : GC} {F B : Hp} {a : Addr} {vs : List V} {ds : List D} (h : B a = some (.lst vs)) (r : RepAll G F vs ds) : WalkD G F B (Itl G.K a) ds :=
  .of_walk walk_list r.length (fun H s => .of (s _ _ h)) fun i F2 H2 x H3 hi s1 s2 _ ⟨e1, e2⟩ => by
    subst e1
    obtain ⟨d, h1, h2⟩ := r.getV e2
    exact ⟨F2, d, Grow.refl s2, h1, h2.mono s1⟩
theorem WalkD.tup {G : GC} {F B : Hp} {a : Addr} {vs : List V} {ds : List D} (h : SqT G.K B a vs) (r : RepAll G F vs ds) : WalkD G F B (Itt G.K a) ds :=
  .of_walk walk_tup r.length (fun H s => Same.sqT s h) fun i F2 H2 x H3 hi s1 s2 _ ⟨e1, e2⟩ => by
    subst e1
    obtain ⟨d, h1, h2⟩ := r.getV e2
    exact ⟨F2, d, Grow.refl s2, h1, h2.mono s1⟩
theorem WalkD.scr {G : GC} {F B : Hp} {a : Addr} {ns : List Int} (h : SqL G.K B a (ns.map V.int)) : WalkD G F B (Itl G.K a) (ns.map D.int) :=
  .of_walk walk_list (by simp) (fun H s => s.seq h) fun i F2 H2 x H3 hi s1 s2 _ ⟨e1, e2⟩ => by
    subst e1
    rw [List.getElem?_map, Option.map_eq_some_iff] at e2
    obtain ⟨n, h1, h2⟩ := e2
    subst h2
    exact ⟨F2, .int n, Grow.refl s2, by rw [List.getElem?_map, h1]; rfl, .int n⟩
def signsOf (z : Str) : List D := z.cps.toList.map fun c => D.str ⟨#[c]⟩
theorem WalkD.str {G : GC} {F B : Hp} {z : Str} : WalkD G F B (Its z) (signsOf z) :=
  .of_walk walk_str (by simp [signsOf]) (fun _ _ => trivial) fun i F2 H2 x H3 hi s1 s2 _ ⟨e1, c, e2, e3⟩ => by
    subst e1 e3
    refine ⟨F2, .str ⟨#[c]⟩, Grow.refl s2, ?_, .str _⟩
    unfold signsOf
    rw [List.getElem?_map, Array.getElem?_toList, e2]
    rfl
def rangeL (lo : Int) (n : Nat) : List D := (List.range n).map fun i => D.int (lo + (i : Nat))
theorem WalkD.range {G : GC} {F B : Hp} {lo : Int} {n : Nat} : WalkD G F B (Itr lo n) (rangeL lo n) :=
  .of_walk walk_range (by simp [rangeL]) (fun _ _ => trivial) fun i F2 H2 x H3 hi s1 s2 _ ⟨e1, e2⟩ => by
    subst e1 e2
    refine ⟨F2, .int (lo + i), Grow.refl s2, ?_, .int _⟩
    have hi' : i < n := by simpa [rangeL] using hi
    unfold rangeL
    rw [List.getElem?_map, List.getElem?_range hi']
    rfl
@[simp] def itemsS : D → Res (List D)
  | .lst xs => .ok xs
  | .tup xs => .ok xs
  | .scr ns => .ok (ns.map D.int)
  | .str z => .ok (signsOf z)
  | _ => .bad
section
variable {X : Cx} {W : Wi} {e tg : Expr} {fe : Env → Res D} {p pos tpos : Pos}
theorem re_iterS (he : RE X W .S e fe) : RI X W true tg e (fun r => fe r >>= itemsS) := by
  refine ⟨fun pins s σ H R I ⟨H0, F0, fp, F, r, m, o⟩ => ?_⟩
  have o : Out (gOf X) W σ F H _ (fe r >>= itemsS) := o
  cases ef : fe r with
  | er x => exact (pi_list he).run pins s σ H R I ⟨H0, F0, fp, F, r, m, by rw [ef] at o ⊢; exact o⟩
  | bad => rw [ef] at o; exact o.elim
  | ok d =>
    rw [ef] at o
    cases d with
    | lst ds => exact (pi_list he).run pins s σ H R I ⟨H0, F0, fp, F, r, m, by
        rw [ef]
        intro F' H' gr v kv
        have kv' : Rep (gOf X) F' v (.lst ds) := kv
        cases kv' with
        | lst h1 r1 => exact ⟨_, rfl, ⟨_, .of (gr.sub _ _ h1)⟩, o F' H' gr _ (WalkD.list h1 r1)⟩⟩
    | tup ds => exact (pi_tup he).run pins s σ H R I ⟨H0, F0, fp, F, r, m, by
        rw [ef]
        intro F' H' gr v kv
        have kv' : Rep (gOf X) F' v (.tup ds) := kv
        cases kv' with
        | tup h1 r1 => exact ⟨_, rfl, ⟨_, Same.sqT gr.sub h1⟩, o F' H' gr _ (WalkD.tup h1 r1)⟩⟩
    | scr ns => exact (pi_list he).run pins s σ H R I ⟨H0, F0, fp, F, r, m, by
        rw [ef]
        intro F' H' gr v kv
        have kv' : Rep (gOf X) F' v (.scr ns) := kv
        cases kv' with
        | scr h1 => exact ⟨_, rfl, ⟨_, gr.sub.seq h1⟩, o F' H' gr _ (WalkD.scr h1)⟩⟩
    | str z => exact (pi_str he).run pins s σ H R I ⟨H0, F0, fp, F, r, m, by
        rw [ef]
        intro F' H' gr v kv
        have kv' : Rep (gOf X) F' v (.str z) := kv
        cases kv'
        exact ⟨z, rfl, o F' H' gr _ WalkD.str⟩⟩
    | _ => exact o.elim
/-- range(n), range(m, n) in the sizes that are walked -/
def rng1 : List D → Res (List D)
  | [.int n] => if -1000000000 ≤ n ∧ n ≤ 1000000000 then .ok (rangeL 0 n.toNat) else .bad
  | _ => .bad
theorem rng1_inv {ds : List D} : (∃ n, ds = [.int n] ∧ (-1000000000 ≤ n ∧ n ≤ 1000000000) ∧ rng1 ds = .ok (rangeL 0 n.toNat)) ∨ rng1 ds = .bad := by
  unfold rng1
  split
  · split
    · rename_i n h; exact .inl ⟨n, rfl, h, rfl⟩
    · exact .inr rfl
  · exact .inr rfl
theorem ri_range1 {b : Bool} {a : Expr} {fa : Env → Res (List D)} (hm : X.mg "range" = none) (ha : RAR X W [a] fa) (hg : Gl X "range" := by rfl) (hs : starEach [a] X.env = [(false, eval a X.env)] := by rfl) : RI X W b tg (.Call (.Name "range" p) [a] [] pos) (fun r => fa r >>= rng1) := by
  refine ⟨fun pins s σ H R I ⟨H0, F0, fp, F, r, m, o⟩ => (pi_range1 hg hm ha hs).run pins s σ H R I ⟨H0, F0, fp, F, r, m, o.bind fun F' H' ds gr o2 vs rv => ?_⟩⟩
  rcases rng1_inv (ds := ds) with ⟨n, rfl, hn, e⟩ | e
  · rw [e] at o2
    cases rv with
    | cons r1 rr =>
      cases rr
      exact ⟨n, by rw [RdD.int r1], by omega, by omega, o2 F' H' (Grow.refl gr.sub) _ WalkD.range⟩
  · rw [e] at o2; exact o2.elim
/-- what a block raises is not looked after -/
def nE {α : Type} : Res α → Res α
  | .ok a => .ok a
  | _ => .bad
@[simp] theorem nE_ok {α : Type} (a : α) : nE (.ok a) = .ok a := rfl
theorem nE_some {α : Type} {x : Res α} {a : α} (h : nE x = .ok a) : x = .ok a := by
  cases x <;> first | exact h | cases h
def lcD (g : D → Env → Res Env) (t : Env → Res Bool) (f : Env → Res D) (r : Env) : List D → Res (List D)
  | [] => .ok []
  | d :: ds => nE (g d r) >>= fun r1 => nE (t r1) >>= fun b => if b = true then nE (f r1) >>= fun x => lcD g t f r ds >>= fun xs => .ok (x :: xs) else lcD g t f r ds
@[simp] def lstD (ds : List D) : Res D := if ds.length ≤ lim then .ok (.lst ds) else .bad
/-- the block's own names forgotten -/
def wipeR (r : Env) : List Nat → Env
  | [] => r
  | v :: vs => (wipeR r vs).set v .un
theorem MS.wipe {G : GC} {J J' : L2.St → Prop} {H0 F0 F H : Hp} {fp : Nat → List Addr} {σ : L2.St} {r : Env} (m : MS G J H0 F0 fp F σ H r) : ∀ (vs : List Nat), J' (L2.wipe σ vs) → MS G J' H0 F0 fp F (L2.wipe σ vs) H (wipeR r vs)
  | vs, j => by
    have len : ∀ vs : List Nat, (wipeR r vs).length = r.length := fun vs => by
      induction vs with
      | nil => rfl
      | cons v vs ih => rw [wipeR, List.length_set, ih]
    have some1 : ∀ (vs : List Nat) {i : Nat} {s : Slot}, (wipeR r vs)[i]? = some s → s ≠ .un → r[i]? = some s ∧ i ∉ vs := fun vs => by
      induction vs with
      | nil => exact fun h _ => ⟨h, by simp⟩
      | cons v vs ih =>
        intro i s h ne
        rcases get_set_slot h with ⟨_, x, _⟩ | ⟨n, h⟩
        · exact absurd x.symm ne
        · obtain ⟨h1, h2⟩ := ih h ne
          exact ⟨h1, by simp only [List.mem_cons, not_or]; exact ⟨Ne.symm n, h2⟩⟩
    have keep : ∀ (vs : List Nat) {i : Nat}, i ∉ vs → (L2.wipe σ vs)[i]? = σ[i]? := fun vs => by
      induction vs with
      | nil => exact fun _ => rfl
      | cons v vs ih =>
        intro i h
        simp only [List.mem_cons, not_or] at h
        unfold L2.wipe
        rw [List.getElem?_set_ne (Ne.symm h.1)]
        exact ih h.2
    exact {
      jo := j
      s0 := m.s0
      t0 := m.t0
      f0 := m.f0
      sub := m.sub
      new := m.new
      len := by rw [len, m.len, wipe_length]
      sh := fun i d h => by
        obtain ⟨h1, h2⟩ := some1 vs h (by simp)
        rw [keep vs h2]
        exact m.sh i d h1
      ow := fun i s d h => by
        obtain ⟨h1, h2⟩ := some1 vs h (by simp)
        rw [keep vs h2]
        exact m.ow i s d h1
      ap := fun i k s t d e ne h1 h2 => m.ap i k s t d e ne (some1 vs h1 (by simp)).1 (some1 vs h2 (by simp)).1 }
theorem MS.mapJ {G : GC} {J J' : L2.St → Prop} {H0 F0 F H : Hp} {fp : Nat → List Addr} {σ : L2.St} {r : Env} (m : MS G J H0 F0 fp F σ H r) (j : J' σ) : MS G J' H0 F0 fp F σ H r := ⟨j, m.s0, m.f0, m.sub, m.new, m.len, m.sh, m.ow, m.ap, m.t0⟩
theorem wipe_wipe : ∀ (vs : List Nat) (σ : L2.St), L2.wipe (L2.wipe σ vs) vs = L2.wipe σ vs := fun vs σ => by
  have at1 : ∀ (vs : List Nat) (σ : L2.St) (i : Nat), (L2.wipe σ vs)[i]? = if i ∈ vs then σ[i]?.map fun _ => none else σ[i]? := fun vs => by
    induction vs with
    | nil => intro σ i; simp [L2.wipe]
    | cons v vs ih =>
      intro σ i
      unfold L2.wipe
      by_cases h : v = i
      · subst h
        rw [if_pos List.mem_cons_self]
        by_cases hv : v < (L2.wipe σ vs).length
        · rw [List.getElem?_set_self hv]
          rw [wipe_length] at hv
          rw [List.getElem?_eq_getElem hv]
          rfl
        · rw [List.getElem?_eq_none (by simpa using hv)]
          rw [wipe_length] at hv
          rw [List.getElem?_eq_none (by simpa using hv)]
          rfl
      · rw [List.getElem?_set_ne h, ih]
        simp only [List.mem_cons, show (i = v) = False from eq_false (Ne.symm h), false_or]
  apply List.ext_getElem?
  intro i
  rw [at1, at1]
  by_cases h : i ∈ vs
  · rw [if_pos h, if_pos h]
    cases σ[i]? <;> rfl
  · rw [if_neg h]
theorem wipe_set {vs : List Nat} {i : Nat} (hi : i ∈ vs) (σ : L2.St) (v : Option V) : L2.wipe (σ.set i v) vs = L2.wipe σ vs := by
  induction vs generalizing i with
  | nil => cases hi
  | cons w vs ih =>
    unfold L2.wipe
    by_cases h : i ∈ vs
    · rw [ih h]
    · have e : i = w := by simpa [h] using hi
      subst e
      have z : ∀ (vs : List Nat) (σ : L2.St), i ∉ vs → L2.wipe (σ.set i v) vs = (L2.wipe σ vs).set i v := fun vs => by
        induction vs with
        | nil => exact fun _ _ => rfl
        | cons x vs ih =>
          intro σ h
          simp only [List.mem_cons, not_or] at h
          unfold L2.wipe
          rw [ih σ h.2, List.set_comm _ _ h.1]
      rw [z vs σ h, List.set_set]
abbrev W0 : Wi := ⟨fun _ _ _ _ => False, fun _ => True⟩
abbrev JB (vs : List Nat) (σ : L2.St) : L2.St → Prop := fun τ => L2.wipe τ vs = L2.wipe σ vs
theorem jb {i : Nat} {vs : List Nat} {σ0 : L2.St} (hi : i ∈ vs) : ∀ (σ : L2.St) (v : Option V), JB vs σ0 σ → JB vs σ0 (σ.set i v) := fun σ v h => (wipe_set hi σ v).trans h
theorem Out.nE {G : GC} {W W' : Wi} {σ τ : L2.St} {α : Type} {F H : Hp} {P : Hp → Hp → α → Prop} {x : Res α} {a : α} (e : nE x = .ok a) (h : ∀ F' H', Grow F H F' H' → P F' H' a) : Out G W σ F H P x := by
  rw [nE_some e]
  exact h
theorem t_lc {G : GC} {b : Bool} {fi : Env → Res (List D)} {g : D → Env → Res Env} {t : Env → Res Bool} {f : Env → Res D} {vs : List Nat} (σ : L2.St) (H : Hp) (Q : VK)
    (h : tE G W (.O .flat) (fun r => fi r >>= fun ds => lcD g t f (wipeR r vs) ds >>= lstD) σ H Q) : tLc (tI G W b fi) (tGd G (JB vs σ) g) (tT G W0 t) (tE G W0 .S f) vs σ H Q := by
  obtain ⟨H0, F0, fp, F, r, m, o⟩ := h
  refine ⟨H0, F0, fp, F, r, m, o.bind fun F1 H1 ds g1 o1 J w D hD => ?_⟩
  cases e : lcD g t f (wipeR r vs) ds with
  | er x =>
    exfalso
    have z : ∀ (ds : List Mir.D) (x : Mir.D), lcD g t f (wipeR r vs) ds ≠ .er x := fun ds => by
      induction ds with
      | nil => exact fun x h => nomatch h
      | cons d ds ih =>
        intro x h
        rw [lcD] at h
        cases e1 : nE (g d (wipeR r vs)) with
        | er y => cases hg : g d (wipeR r vs) <;> (rw [hg] at e1; cases e1)
        | bad => rw [e1] at h; cases h
        | ok r1 =>
          rw [e1] at h
          simp only [ok_bind] at h
          cases e2 : nE (t r1) with
          | er y => cases hg : t r1 <;> (rw [hg] at e2; cases e2)
          | bad => rw [e2] at h; cases h
          | ok bb =>
            rw [e2] at h
            simp only [ok_bind] at h
            cases bb with
            | false => exact ih x h
            | true =>
              rw [if_pos rfl] at h
              cases e3 : nE (f r1) with
              | er y => cases hg : f r1 <;> (rw [hg] at e3; cases e3)
              | bad => rw [e3] at h; cases h
              | ok y =>
                rw [e3] at h
                simp only [ok_bind] at h
                cases e4 : lcD g t f (wipeR r vs) ds with
                | er z => exact ih z e4
                | bad => rw [e4] at h; cases h
                | ok zs => rw [e4] at h; cases h
    exact z _ _ e
  | bad => rw [e] at o1; exact o1.elim
  | ok out =>
    rw [e] at o1
    have hl : out.length ≤ lim := by
      by_cases h : out.length ≤ lim
      · exact h
      · simp only [ok_bind] at o1
        unfold lstD at o1
        rw [if_neg h] at o1
        exact o1.elim
    have o2 : ∀ F' H', Grow F1 H1 F' H' → ∀ v, (Kd.O .flat).Rep G H F' H' v (.lst out) → Q v H' := by
      have o1' : Out G W σ F1 H1 _ (lstD out) := o1
      unfold lstD at o1'
      rw [if_pos hl] at o1'
      exact o1'
    clear o1
    have gD : Grow F1 H1 F1 (upd H1 D (.lst [])) := Grow.own g1.sub hD
    refine ⟨fun i mm H => mm = ds.length - i ∧ i ≤ ds.length ∧ ∃ F acc accD rest, Grow F1 H1 F H ∧ F D = none ∧ H D = some (.lst acc) ∧ RepAll G F acc accD ∧ lcD g t f (wipeR r vs) (ds.drop i) = .ok rest ∧ out = accD ++ rest,
      ⟨ds.length, by simp, Nat.zero_le _, F1, [], [], out, gD, g1.sub.free hD, upd_same, .nil, by rw [List.drop_zero]; exact e, by simp⟩, ?_⟩
    rintro i mm H2 ⟨rfl, hi, F2, acc, accD, rest, g2, nD, hD2, ra, el, eo⟩
    have sB : Same (if b = true then F1 else nT H1) H2 := by
      cases b with
      | true => rw [if_pos rfl]; exact g2.f.trans g2.sub
      | false => exact g2.h.nT
    by_cases hlt : i < ds.length
    · refine .inr ⟨w.goes i H2 hlt sB, fun H' => i + 1 ≤ ds.length ∧ ∃ F acc accD rest, Grow F1 H1 F H' ∧ F D = none ∧ H' D = some (.lst acc) ∧ RepAll G F acc accD ∧ lcD g t f (wipeR r vs) (ds.drop (i + 1)) = .ok rest ∧ out = accD ++ rest,
        fun H' q => ⟨ds.length - (i + 1), by omega, rfl, q.1, q.2⟩, fun x H3 y => ?_⟩
      obtain ⟨F3, d, g3, ed, rx⟩ := w.yields i F2 H2 x H3 hlt g2.f g2.sub sB y
      have e1 : ds.drop i = d :: ds.drop (i + 1) := by
        rw [List.drop_eq_getElem_cons hlt]
        rw [List.getElem?_eq_getElem hlt] at ed
        rw [Option.some.inj ed]
      rw [e1, lcD] at el
      have nD3 : F3 D = none := by
        cases z : F3 D with
        | none => rfl
        | some u =>
          rcases g3.new D u z with q | q
          · rw [nD] at q; cases q
          · rw [hD2] at q; cases q
      cases eg : nE (g d (wipeR r vs)) with
      | er y => rw [eg] at el; cases el
      | bad => rw [eg] at el; cases el
      | ok r1 =>
        rw [eg] at el
        simp only [ok_bind] at el
        have m3 := ((m.grow g1).grow g2).grow g3
        refine ⟨H0, F0, fp, F3, wipeR r vs, d, m3.wipe vs (wipe_wipe vs σ), rx, r1, nE_some eg, fun fp4 σ4 m4 => ⟨m4.jo, ?_⟩⟩
        cases et : nE (t r1) with
        | er y => rw [et] at el; cases el
        | bad => rw [et] at el; cases el
        | ok bb =>
          rw [et] at el
          simp only [ok_bind] at el
          refine ⟨H0, F0, fp4, F3, r1, m4.mapJ trivial, Out.nE (W' := W0) (τ := σ) et fun F5 H5 g5 => ?_⟩
          have g25 := g2.trans (g3.trans g5)
          have D5 : H5 D = some (.lst acc) := g5.h.at _ _ (g3.h.at _ _ hD2)
          have nD5 : F5 D = none := by
            cases z : F5 D with
            | none => rfl
            | some u =>
              rcases g5.new D u z with q | q
              · rw [nD3] at q; cases q
              · rw [g3.h.at _ _ hD2] at q; cases q
          cases bb with
          | false => exact ⟨hlt, F5, acc, accD, rest, g25, nD5, D5, ra.mono (g3.f.trans g5.f), el, eo⟩
          | true =>
            rw [if_pos rfl] at el
            show tE G W0 .S f σ4 H5 _
            cases ex : nE (f r1) with
            | er y => rw [ex] at el; cases el
            | bad => rw [ex] at el; cases el
            | ok dx =>
              rw [ex] at el
              simp only [ok_bind] at el
              cases er : lcD g t f (wipeR r vs) (ds.drop (i + 1)) with
              | er y => rw [er] at el; cases el
              | bad => rw [er] at el; cases el
              | ok rest' =>
                rw [er] at el
                have er2 : rest = dx :: rest' := (Res.ok.inj el).symm
                subst er2
                refine ⟨H0, F0, fp4, F5, r1, (m4.mapJ trivial).grow g5, Out.nE (W' := W0) (τ := σ) ex fun F6 H6 g6 v kv => ⟨acc, g6.h.at _ _ D5, ?_, hlt, F6, acc ++ [v], accD ++ [dx], rest', ?_, ?_, upd_same, (ra.mono ((g3.f.trans g5.f).trans g6.f)).append (.cons kv .nil), rfl, by rw [eo]; simp⟩⟩
                · have hle : acc.length < out.length := by rw [eo, ra.length]; simp
                  exact Nat.lt_of_lt_of_le hle (Nat.le_trans hl lim_le)
                · have g26 := g25.trans g6
                  have nD6 : F6 D = none := by
                    cases z : F6 D with
                    | none => rfl
                    | some u =>
                      rcases g6.new D u z with q | q
                      · rw [nD5] at q; cases q
                      · rw [D5] at q; cases q
                  exact ⟨g26.h.upd hD, g26.f, fun b u q => by rw [upd_ne (ne_of_none q nD6)]; exact g26.sub b u q, g26.new⟩
                · cases z : F6 D with
                  | none => rfl
                  | some u =>
                    rcases g6.new D u z with q | q
                    · rw [nD5] at q; cases q
                    · rw [D5] at q; cases q
    · have ei : i = ds.length := by omega
      subst ei
      rw [List.drop_length] at el
      cases el
      rw [List.append_nil] at eo
      subst eo
      exact .inl ⟨w.stops H2 sB, o2 F2 H2 g2 _ ⟨[D], Own.lst rfl hD2 nD (OwnAll.of_rep ra) (by simp), fun a ha => by rw [List.mem_singleton.mp ha]; exact g1.h.free hD⟩⟩
abbrev RTs (X : Cx) (W : Wi) (es : List Expr) (f : Env → Res Bool) : Prop := PTs X es (tT (gOf X) W f)
theorem PTs.imp {es : List Expr} {t t' : TT} (h : PTs X es t) (i : ∀ σ H Q, t' σ H Q → t σ H Q) : PTs X es t' := ⟨fun pins s σ H Q I hw => h.run pins s σ H Q I (i σ H Q hw)⟩
theorem rts_nil : RTs X W [] (fun _ => .ok true) := PTs.imp pts_nil fun σ H Q ⟨H0, F0, fp, F, r, m, o⟩ => o F H (Grow.refl m.sub)
theorem rts_one {f : Env → Res Bool} (h : RT X W e f) : RTs X W [e] f := pts_one h
theorem re_lc {b : Bool} {elt iter : Expr} {ifs : List Expr} {scope : Scope} {fi : Env → Res (List D)} {g : D → Env → Res Env} {t : Env → Res Bool} {f : Env → Res D} (own : List (Str × Nat)) (hc : X.calm = true) (hN : X.N.Nodup) (hi : RI X W b tg iter fi) (ok : BlkOk X.N X.env.scope scope own)
    (hg : ∀ (s : Shared) (H : Hp) (C : Addr) (cl : List (Str × Addr)) (fp : List Addr) (σ : L2.St), RG (X.blk s H scope (compEnvC scope cl C X.env) fp) (JB (own.map (·.2)) σ) tg g)
    (ht : ∀ (s : Shared) (H : Hp) (C : Addr) (cl : List (Str × Addr)) (fp : List Addr), RTs (X.blk s H scope (compEnvC scope cl C X.env) fp) W0 ifs t)
    (he : ∀ (s : Shared) (H : Hp) (C : Addr) (cl : List (Str × Addr)) (fp : List Addr), RE (X.blk s H scope (compEnvC scope cl C X.env) fp) W0 .S elt f) (hs : ∀ x, foldedSetIterable iter X.env x = pure x := by intro _; rfl) :
    RE X W (.O .flat) (.ListComp elt [⟨tg, iter, ifs, 0⟩] scope pos) (fun r => fi r >>= fun ds => lcD g t f (wipeR r (own.map (·.2))) ds >>= lstD) :=
  ⟨fun pins s σ H Q I h => (pe_lc (g := tGd (gOf X) (JB (own.map (·.2)) σ) g) hc hN hi ok (fun s H C cl fp => hg s H C cl fp σ) ht he hs).run pins s σ H Q I (t_lc σ H Q h)⟩
/-- name = [..] on one line, the name a local -/
theorem rs_setLc {k : Kd} {b : Bool} {elt iter : Expr} {ifs : List Expr} {scope : Scope} {fi : Env → Res (List D)} {g : D → Env → Res Env} {t : Env → Res Bool} {f : Env → Res D} {y : Str} {py spos : Pos} (i : Nat) (own : List (Str × Nat)) (hc : X.calm = true) (hN : X.N.Nodup) (hi : RI X W b tg iter fi) (ok : BlkOk X.N X.env.scope scope own)
    (hg : ∀ (s : Shared) (H : Hp) (C : Addr) (cl : List (Str × Addr)) (fp : List Addr) (σ : L2.St), RG (X.blk s H scope (compEnvC scope cl C X.env) fp) (JB (own.map (·.2)) σ) tg g)
    (ht : ∀ (s : Shared) (H : Hp) (C : Addr) (cl : List (Str × Addr)) (fp : List Addr), RTs (X.blk s H scope (compEnvC scope cl C X.env) fp) W0 ifs t)
    (he : ∀ (s : Shared) (H : Hp) (C : Addr) (cl : List (Str × Addr)) (fp : List Addr), RE (X.blk s H scope (compEnvC scope cl C X.env) fp) W0 .S elt f)
    (hJ : ∀ σ v, W.J σ → W.J (σ.set i v) := by first | exact fun _ _ h => h | exact jset (by decide) | exact jfn (by decide)) (hy : X.N[i]? = some y := by rfl) (hyl : X.env.scope.names.lookup y = some .local := by rfl) (hk : X.env.scope.kind = .function := by rfl)
    (ha : (scope.names.any fun (n, k) => n == y && (k == .local || k == .cell)) = false := by decide +kernel) (hl : (py.line == pos.line) = true := by rfl) (hs : ∀ x, foldedSetIterable iter X.env x = pure x := by intro _; rfl) :
    RS X W k (.Assign [.Name y py] (.ListComp elt [⟨tg, iter, ifs, 0⟩] scope pos) spos) (fun r => lift (fi r >>= fun ds => lcD g t f (wipeR r (own.map (·.2))) ds >>= lstD) r fun d => .nx (r.set i (.ow .flat d))) :=
  ⟨fun pins s σ H D I h => (ps_setLc (g := tGd (gOf X) (JB (own.map (·.2)) σ) g) hc hN hy hyl (sw_true hk hyl hl ha) hi ok (fun s H C cl fp => hg s H C cl fp σ) ht he hs).run pins s σ H D I (by
    obtain ⟨H0, F0, fp, F, r, m, o⟩ := h
    refine t_lc σ H _ ⟨H0, F0, fp, F, r, m, OutS.lift m o fun F' H' d gr o' v kv => ?_⟩
    obtain ⟨fp', m'⟩ := m.setNew gr i kv hJ
    exact o' fp' F' _ H' (Same.refl _) m')⟩
end
end Mir
namespace Mir
open PySem PySem.Spec PyProof.Rows L2
variable [Tn]
inductive Tg where
  | t (n : String)
  | c (k : Nat)
  deriving DecidableEq
def tgOf : D → Tg
  | .non => .t "NoneType"
  | .bl _ => .t "bool"
  | .int _ => .t "int"
  | .str _ => .t "str"
  | .tup _ => .t "tuple"
  | .lst _ => .t "list"
  | .scr _ => .t "list"
  | .dic _ _ => .t "dict"
  | .obj c _ => .c c
  | .exc c _ => .c c
  | .cls _ => .t "type"
  | .ty _ => .t "type"
def bS : List String := ["NoneType", "bool", "int", "str", "tuple", "list", "dict"]
def bT : List String := ["int", "bool", "str", "tuple", "list", "dict", "ValueError"]
def clsTg : D → Option Tg
  | .cls c => some (.c c)
  | .ty n => some (.t n)
  | _ => none
def tgV (ca : Nat → Addr) : Tg → Value
  | .t n => .type n
  | .c k => .ref (ca k)
/-- the class b is over the class a -/
def overC (a b : Nat) : Bool := (a == b) || (b == 5 && decide (a < 2)) || (b == 10 && decide (10 < a))
/-- what isinstance says -/
def isaT : Tg → Tg → Bool
  | .t a, .t b => (a == b) || (a == "bool" && b == "int")
  | .t _, .c _ => false
  | .c a, .c b => overC a b
  | .c a, .t b => decide (10 ≤ a) && b == "ValueError"
structure ObjC (K : PySem.W.Frag) (C : Addr) : Prop where
  cl : Cls K C
  ha : PySem.W.findIn K (.ref C) "__class__" = some (some (.builtin "object.__class__"))
  hn : PySem.W.specialIn K (.builtin "object.__class__") "__get__" = some (some (.builtin "getset_descriptor.__get__"))
  ht : PySem.W.takesIn K (.builtin "object.__class__") = some true
  hm : PySem.W.mroIn K C (.type "object") = some true
structure ExcC (K : PySem.W.Frag) (C : Addr) : Prop where
  cl : (PySem.W.clsIn K C).isSome = true
  hg : PySem.W.findIn K (.ref C) "__getattribute__" = some (some (.builtin "BaseException.__getattribute__"))
  hk : PySem.W.findIn K (.ref C) "__getattr__" = some none
  hs : PySem.W.subIn K (.ref C) (.type "BaseException") = some true
  ha : PySem.W.findIn K (.ref C) "__class__" = some (some (.builtin "object.__class__"))
  hn : PySem.W.specialIn K (.builtin "object.__class__") "__get__" = some (some (.builtin "getset_descriptor.__get__"))
  ht : PySem.W.takesIn K (.builtin "object.__class__") = some true
  hm : PySem.W.mroIn K C (.type "object") = some true
/-- the classes cs may be asked for, the classes us may be asked about -/
structure IsM (K : PySem.W.Frag) (ca : Nat → Addr) (cs us : List Nat) : Prop where
  oo : ∀ c ∈ cs, ∀ u ∈ us, PySem.W.kitOne K (.ref (ca c)) (.ref (ca u)) = some (overC c u)
  ot : ∀ c ∈ cs, ∀ u ∈ bT, PySem.W.kitOne K (.ref (ca c)) (.type u) = some (isaT (.c c) (.t u))
  to : ∀ b ∈ bS, ∀ u ∈ us, PySem.W.kitOne K (.type b) (.ref (ca u)) = some false
  ob : ∀ c ∈ cs, c < 10 → ObjC K (ca c)
  ex : ∀ c ∈ cs, 10 ≤ c → ExcC K (ca c)
def okS (cs : List Nat) : Tg → Bool
  | .t n => bS.contains n
  | .c k => cs.contains k
def okD (cs : List Nat) (d : D) : Bool := okS cs (tgOf d) && (match d with
  | .obj c _ => decide (c < 10)
  | .exc c _ => decide (10 ≤ c)
  | _ => true)
def okT (us : List Nat) : Tg → Bool
  | .t n => bT.contains n
  | .c k => us.contains k
theorem bST : ∀ a ∈ bS, ∀ b ∈ bT, kitB a b = some (isaT (.t a) (.t b)) := by decide +kernel
theorem IsM.one {K : PySem.W.Frag} {ca : Nat → Addr} {cs us : List Nat} (M : IsM K ca cs us) {t u : Tg} (h1 : okS cs t = true) (h2 : okT us u = true) : PySem.W.kitOne K (tgV ca t) (tgV ca u) = some (isaT t u) := by
  cases t with
  | t a =>
    have ha : a ∈ bS := by simpa [okS] using h1
    cases u with
    | t b => exact kit_ty (bST a ha b (by simpa [okT] using h2))
    | c k => exact M.to a ha k (by simpa [okT] using h2)
  | c a =>
    have ha : a ∈ cs := by simpa [okS] using h1
    cases u with
    | t b => exact M.ot a ha b (by simpa [okT] using h2)
    | c k => exact M.oo a ha k (by simpa [okT] using h2)
theorem IsM.any {K : PySem.W.Frag} {ca : Nat → Addr} {cs us : List Nat} (M : IsM K ca cs us) {t : Tg} (h1 : okS cs t = true) : ∀ {l : List Tg}, l.all (okT us) = true → PySem.W.kitAny K (tgV ca t) (l.map (tgV ca)) = some (l.any (isaT t))
  | [], _ => rfl
  | u :: l, h => by
    rw [List.all_cons, Bool.and_eq_true] at h
    rw [List.map_cons, List.any_cons]
    refine kitAny_cons (M.one h1 h.1) (fun e => ?_) fun e => ?_
    · rw [e, Bool.false_or]; exact IsM.any M h1 h.2
    · rw [e, Bool.true_or]
def optAll : List D → Option (List Tg)
  | [] => some []
  | d :: ds => match clsTg d, optAll ds with
    | some t, some ts => some (t :: ts)
    | _, _ => none
/-- isinstance over data -/
def isD (cs us : List Nat) (d c : D) : Res D := if okD cs d = true then (match clsTg c with
    | some u => if okT us u = true then .ok (.bl (isaT (tgOf d) u)) else .bad
    | none => match c with
      | .tup es => match optAll es with
        | some l => if l.all (okT us) = true then .ok (.bl (l.any (isaT (tgOf d)))) else .bad
        | none => .bad
      | _ => .bad) else .bad
theorem ne_isD {cs us : List Nat} : NoEr2 (isD cs us) := fun a b e z => by
  unfold isD at z
  split at z
  · split at z
    · split at z <;> cases z
    · split at z
      · split at z
        · split at z <;> cases z
        · cases z
      · cases z
  · cases z
section
variable {X : Cx} {pins : List (Addr × Obj)} {σ : L2.St} {H F : Hp} {s : Shared}
theorem kit_rd {cs us : List Nat} {v : V} {u : Value} {d : D} (M : IsM X.K (gOf X).ca cs us) (I : L2.Inv X pins σ H s) (sF : Same F H) (h : RdD (gOf X) F H v d) (r : RelV v u) (hk : okD cs d = true) :
    ∃ P : Heap → Prop, PySem.W.KitX X.K u (tgV (gOf X).ca (tgOf d)) P ∧ P s.heap ∧ u ≠ .builtin "__main__.__loader__#opaque" := by
  cases d with
  | non => rw [RdD.non h] at r; exact kit_of I r (.base .non)
  | bl b => rw [RdD.bl h] at r; exact kit_of I r (.base (.bl b))
  | int i => rw [RdD.int h] at r; exact kit_of I r (.base (.int i))
  | str z => rw [RdD.str h] at r; exact kit_of I r (.base (.str z))
  | tup ds =>
    obtain ⟨a, vs, rfl, q, _⟩ := h.tup sF
    rcases q with (q | ⟨o, q⟩) | ⟨o, its, n, q, c, _⟩
    · exact kit_of I r (.base (.tup q))
    · exact kit_of I r (.fTuple q)
    · exact kit_of I r (.kTuple q c)
  | lst ds =>
    obtain ⟨a, vs, rfl, q, _⟩ := h.lst sF
    exact kit_of I r (.base (.lst q))
  | scr ns =>
    obtain ⟨a, rfl, q⟩ := h.scr sF
    rcases q with (q | ⟨o, q⟩) | ⟨o, its, n, q, c, _⟩
    · exact kit_of I r (.base (.lst q))
    · exact kit_of I r (.base (.frz q))
    · exact kit_of I r (.kList q c)
  | dic ks vs =>
    obtain ⟨a, o, xs, ws, rfl, q, _, dd, _⟩ := h.dic sF
    cases (show u = Value.ref a from r)
    obtain ⟨e, _⟩ := (show ObjOk X.prog X.w H s.heap a (.ext (isObj' a o)) from I.hok a _ q)
    exact ⟨_, PySem.W.kitx_dict, ⟨o, e, dd.ex.1⟩, fun z => nomatch z⟩
  | obj c vs =>
    unfold okD at hk
    rw [Bool.and_eq_true] at hk
    have hc : c ∈ cs := by simpa [okS, tgOf] using hk.1
    have O := M.ob c hc (of_decide_eq_true hk.2)
    obtain ⟨a, dx, fs, rfl, q⟩ := h.obj sF
    exact kit_of I r (.base (.ins q O.cl O.ha O.hn O.ht O.hm))
  | exc c vs =>
    unfold okD at hk
    rw [Bool.and_eq_true] at hk
    have hc : c ∈ cs := by simpa [okS, tgOf] using hk.1
    have O := M.ex c hc (of_decide_eq_true hk.2)
    rcases h with h | ⟨A, h⟩
    · have ins : ∀ {a : Addr} {d : Option Addr} {od : Option Obj}, (∃ oe us, s.heap.get? a = some oe ∧ oe.cls = .ref ((gOf X).ca c) ∧ oe.dict = d ∧ oe.data = .fields us) → (match d, od with | some dx, some o => s.heap.get? dx = some o | none, none => True | _, _ => False) → ∃ oe, PySem.W.InstAt s.heap a oe ((gOf X).ca c) od := fun {a d od} ⟨oe, us, h1, h2, h3, h4⟩ hd =>
        ⟨oe, h1, h2, by unfold PySem.W.notCls; rw [h4], by rw [h3]; exact hd⟩
      have fin : ∀ {a : Addr} {oe : Obj} {od : Option Obj}, PySem.W.InstAt s.heap a oe ((gOf X).ca c) od → u = .ref a → ∃ P : Heap → Prop, PySem.W.KitX X.K u (tgV (gOf X).ca (tgOf (.exc c vs))) P ∧ P s.heap ∧ u ≠ .builtin "__main__.__loader__#opaque" := fun {a oe od} J e => by
        subst e
        exact ⟨_, PySem.W.kitx_exc O.cl O.hg O.hk O.hs O.ha O.hn O.ht O.hm, J, fun z => nomatch z⟩
      cases h with
      | exc h1 _ =>
        obtain ⟨e, _⟩ := (show ObjOk X.prog X.w H s.heap _ (.ext (isExc _ ((gOf X).ca c) none)) from I.hok _ _ (sF _ _ h1))
        obtain ⟨oe, J⟩ := ins (od := none) e trivial
        exact fin J r
      | excF h1 h2 _ _ =>
        obtain ⟨e, _⟩ := (show ObjOk X.prog X.w H s.heap _ (.ext (isExc _ ((gOf X).ca c) (some _))) from I.hok _ _ (sF _ _ h1))
        obtain ⟨mA, ⟨od, _, _, e2, _⟩, _⟩ := (show ObjOk X.prog X.w H s.heap _ (.xd _) from I.hok _ _ (sF _ _ h2))
        obtain ⟨oe, J⟩ := ins (od := some od) e e2
        exact fin J r
    · cases h
  | cls c => cases hk
  | ty n => cases hk
theorem cls_val {F : Hp} {v : V} {d : D} {u : Value} {t : Tg} (h : Rep (gOf X) F v d) (e : clsTg d = some t) (r : RelV v u) : u = tgV (gOf X).ca t := by
  cases h with
  | cls hm =>
    cases e
    have r' : u = .ref _ := r
    rw [r']
    show Value.ref _ = .ref ((gOf X).ca _)
    rw [ca_of hm]
  | ty n =>
    cases e
    exact r
  | _ => cases e
theorem cls_vals {F : Hp} : ∀ {vs : List V} {ds : List D} {us : List Value} {l : List Tg}, RepAll (gOf X) F vs ds → optAll ds = some l → Vals vs us → us = l.map (tgV (gOf X).ca)
  | _, _, _, _, .nil, e, .nil => by cases e; rfl
  | _, _, _, _, .cons r t, e, .cons q k => by
    rw [optAll] at e
    split at e
    · rename_i a b h1 h2
      cases e
      rw [cls_val r h1 q, cls_vals t h2 k]
      rfl
    · cases e
theorem RdD.clsS {v : V} {d : D} {t : Tg} (h : RdD (gOf X) F H v d) (e : clsTg d = some t) : Rep (gOf X) F v d := by
  rcases h with h | ⟨A, h⟩
  · exact h
  · cases h <;> cases e
def rIs (X : Cx) (cs us : List Nat) : List V → Hp → VK → Prop := fun xs H Q => ∃ (F : Hp) (x y : V) (d c e : D), xs = [x, y] ∧ Same F H ∧ RdD (gOf X) F H x d ∧ RdD (gOf X) F H y c ∧ isD cs us d c = .ok e ∧ ∀ v, Rep (gOf X) F v e → Q v H
theorem call_is {cs us : List Nat} (M : IsM X.K (gOf X).ca cs us) : CallR X (.builtin "isinstance") (rIs X cs us) := by
  intro pins s σ H xs ws Q I r h
  obtain ⟨F, x, y, d, c, e, rfl, sF, hd, hc, he, q⟩ := h
  obtain ⟨u1, u2, rfl, r1, r2⟩ := vals2 r
  unfold isD at he
  split at he
  · rename_i hok
    obtain ⟨P, Z, p, hx⟩ := kit_rd M I sF hd r1 hok
    have hok : okS cs (tgOf d) = true := by
      unfold okD at hok
      rw [Bool.and_eq_true] at hok
      exact hok.1
    split at he
    · rename_i t ht
      split at he <;> cases he
      rename_i h2
      have e2 := cls_val (hc.clsS ht) ht r2
      subst e2
      exact PySem.W.kia_one Z I.kIn p (M.one hok h2) hx fun tk => ⟨.bl _, H, I.tok tk, rfl, q _ (.bl _)⟩
    · split at he
      · rename_i es
        split at he
        · rename_i l hl
          split at he <;> cases he
          rename_i h2
          obtain ⟨a, vs, rfl, q1, ra⟩ := hc.tup sF
          cases (show u2 = Value.ref a from r2)
          obtain ⟨its, rv, ⟨o, h1, h2', n, h3⟩, _⟩ := I.tuple q1
          have e3 := cls_vals ra hl rv
          subst e3
          obtain ⟨oc, od, dt, sl⟩ := o
          simp only at h2' h3
          subst h2' h3
          exact PySem.W.kia_tup Z I.kIn p h1 (M.any hok h2) hx fun tk => ⟨.bl _, H, I.tok tk, rfl, q _ (.bl _)⟩
        · cases he
      · cases he
  · cases he
theorem boot_isi : bootBuiltins "isinstance" = some (.builtin "isinstance") := by decide +kernel
theorem b_is {cs us : List Nat} (M : IsM X.K (gOf X).ca cs us) (hm : X.mg "isinstance" = none) : BlM X "isinstance" .S (two (isD cs us)) := BlM.b hm boot_isi (call_is M) (ne_two ne_isD) (cal_two fun F H x y a b d Q s ra rb e q => ⟨F, x, y, a, b, d, rfl, s, ra, rb, e, fun v rv => q v F H (Grow.refl s) rv⟩)
def lenD : D → Res D
  | .lst ds => .ok (.int ds.length)
  | .tup ds => .ok (.int ds.length)
  | .scr ns => .ok (.int ns.length)
  | .str z => if z.length ≤ lim then .ok (.int z.length) else .bad
  | .dic ks _ => .ok (.int ks.length)
  | _ => .bad
mutual
theorem nested_of (I : L2.Inv X pins σ H s) (sF : Same F H) : ∀ {v : V} {d : D} {u : Value} {k : NestedKey}, Rep (gOf X) F v d → keyOf d = some k → RelV v u → NestedIs s.heap k u
  | _, _, _, _, .non, e, r => by
    simp only [keyOf, Option.some.injEq] at e
    subst e
    cases (show _ = Value.none from r)
    exact .none
  | _, _, _, _, .bl b, e, r => by
    simp only [keyOf, Option.some.injEq] at e
    subst e
    cases (show _ = Value.bool b from r)
    exact .bool rfl
  | _, _, _, _, .int i, e, r => by
    simp only [keyOf, Option.some.injEq] at e
    subst e
    obtain ⟨t, q⟩ := (show ∃ t, _ = Value.int i t from r)
    cases q
    exact .int i t
  | _, _, _, _, .str z, e, r => by
    simp only [keyOf, Option.some.injEq] at e
    subst e
    obtain ⟨t, q⟩ := (show ∃ t, _ = Value.str z t from r)
    cases q
    exact .text z t
  | _, _, _, _, .tup h ra, e, r => by
    simp only [keyOf, Option.map_eq_some_iff] at e
    obtain ⟨ks, e1, e2⟩ := e
    subst e2
    cases (show _ = Value.ref _ from r)
    obtain ⟨its, rv, ⟨o, h1, h2, n, h3⟩, _⟩ := I.tuple (Same.sqT sF h)
    exact .tup h1 h2 h3 (nested_all I sF ra e1 rv)
  | _, _, _, _, .lst _ _, e, _ => by simp [keyOf] at e
  | _, _, _, _, .scr _, e, _ => by simp [keyOf] at e
  | _, _, _, _, .dic _ _ _ _ _ _ _, e, _ => by simp [keyOf] at e
  | _, _, _, _, .obj _ _ _, e, _ => by simp [keyOf] at e
  | _, _, _, _, .exc _ _, e, _ => by simp [keyOf] at e
  | _, _, _, _, .excF _ _ _ _, e, _ => by simp [keyOf] at e
  | _, _, _, _, .cls _, e, _ => by simp [keyOf] at e
  | _, _, _, _, .ty _, e, _ => by simp [keyOf] at e
theorem nested_all (I : L2.Inv X pins σ H s) (sF : Same F H) : ∀ {vs : List V} {ds : List D} {us : List Value} {ks : List NestedKey}, RepAll (gOf X) F vs ds → keyOf.keysOf ds = some ks → Vals vs us → NestedAll s.heap ks us
  | _, _, _, _, .nil, e, rv => by
    simp only [keyOf.keysOf, Option.some.injEq] at e
    subst e
    cases rv
    exact .nil
  | _, _, _, _, .cons r t, e, rv => by
    rw [keyOf.keysOf] at e
    split at e
    · rename_i a b h1 h2
      cases e
      cases rv with
      | cons q k => exact .cons (nested_of I sF r h1 q) (nested_all I sF t h2 k)
    · cases e
end
/-- the entries' keys stand -/
theorem keys_is (I : L2.Inv X pins σ H s) (sF : Same F H) : ∀ {xs : List (NestedKey × Addr × Value)} {ks : List D}, RepAll (gOf X) F (xs.map fun x => V.ref x.2.1) ks → ks.map keyOf = xs.map (fun x => some x.1) → (∀ x ∈ xs, x.1.depth ≤ 8) → ∀ x ∈ xs, (nestedKind X.prog X.w).is s.heap x.1 x.2.1
  | [], _, _, _, _, _, h => nomatch h
  | y :: ys, _, .cons r t, e, d, x, h => by
    rw [List.map_cons, List.map_cons, List.cons.injEq] at e
    rcases List.mem_cons.mp h with z | z
    · subst z
      exact ⟨nested_of I sF r e.1 rfl, d x List.mem_cons_self⟩
    · exact keys_is I sF t e.2 (fun x hx => d x (List.mem_cons_of_mem _ hx)) x z
theorem dic_of (I : L2.Inv X pins σ H s) (sF : Same F H) {p : Addr} {o : Obj} {xs : List (NestedKey × Addr × Value)} {ks : List D} (hp : H p = some (.ext (isObj' p o))) (dd : DicO (gOf X) o xs) (h : RepAll (gOf X) F (xs.map fun x => V.ref x.2.1) ks) (e : ks.map keyOf = xs.map (fun x => some x.1)) :
    s.heap.DictOfH (nestedKind X.prog X.w) p xs := by
  obtain ⟨q, _⟩ := (show ObjOk X.prog X.w H s.heap p (.ext (isObj' p o)) from I.hok p _ hp)
  obtain ⟨ents, ep, h1, h2⟩ := dd.dat
  exact ⟨o, ents, ep, q, dd.ex, h1, h2, keys_is I sF h e dd.dp, dd.nd⟩
def rLenH (X : Cx) : List V → Hp → VK → Prop := fun xs H Q => ∃ (F : Hp) (p : Addr) (o : Obj) (es : List (NestedKey × Addr × Value)) (ks : List D), xs = [.ref p] ∧ H p = some (.ext (isObj' p o)) ∧ (p == sysModules) = false ∧ Same F H ∧ DicO (gOf X) o es ∧ RepAll (gOf X) F (es.map fun x => V.ref x.2.1) ks ∧ ks.map keyOf = es.map (fun x => some x.1) ∧ Q (.int ((es.length : Nat) : Int)) H
theorem call_lenH : CallR X (.builtin "len") (rLenH X) := by
  intro pins s σ H xs us Q I r h
  obtain ⟨F, p, o, es, ks, rfl, hp, hsys, sF, dd, hr, hk, q⟩ := h
  obtain ⟨u, rfl, rx⟩ := vals1 r
  cases (show u = Value.ref p from rx)
  have hl := dd.sz
  have h63 := line63
  exact call_len_dictH (knd := nestedKind X.prog X.w) hsys (dic_of I sF hp dd hr hk) (by omega) ⟨.int es.length, H, I.tok _, ⟨_, rfl⟩, q⟩
theorem boot_len' : bootBuiltins "len" = some (.builtin "len") := by decide +kernel
theorem b_len (hm : X.mg "len" = none) : BlM X "len" .S (one lenD) := BlM.b hm boot_len' ((call_len_seq.or call_len_str).or call_lenH) (ne_one fun d e z => by unfold lenD at z; split at z <;> (try split at z) <;> cases z) (cal_one fun F H x a d Q s ra e q => by
  unfold lenD at e
  split at e
  · cases e
    obtain ⟨p, vs, rfl, h1, r1⟩ := ra.lst s
    exact .inl (.inl ⟨p, vs, rfl, .inl (.of h1), by rw [r1.length]; exact q _ F H (Grow.refl s) (Rep.int _)⟩)
  · cases e
    obtain ⟨p, vs, rfl, h1, r1⟩ := ra.tup s
    exact .inl (.inl ⟨p, vs, rfl, .inr h1, by rw [r1.length]; exact q _ F H (Grow.refl s) (Rep.int _)⟩)
  · cases e
    obtain ⟨p, rfl, h1⟩ := ra.scr s
    exact .inl (.inl ⟨p, _, rfl, .inl h1, by rw [List.length_map]; exact q _ F H (Grow.refl s) (Rep.int _)⟩)
  · split at e <;> cases e
    rename_i h
    exact .inl (.inr ⟨_, by rw [ra.str], Nat.le_trans h lim_le, q _ F H (Grow.refl s) (Rep.int _)⟩)
  · cases e
    obtain ⟨p, o, xs, ws, rfl, h1, z1, z2, z3, z4, z5, z6⟩ := ra.dic s
    rename_i ks vs
    have hl : xs.length = ks.length := by have := congrArg List.length z5; simpa using this.symm
    exact .inr ⟨F, p, o, xs, ks, rfl, h1, z1, s, z2, z4, z5, by rw [hl]; exact q _ F H (Grow.refl s) (Rep.int _)⟩
  · cases e)
end
end Mir
namespace Mir
open PySem PySem.Spec PyProof.Rows L2
variable [Tn]
section
variable {X : Cx} {pins : List (Addr × Obj)} {σ : L2.St} {H : Hp} {s sI : Shared} {a : Addr}
theorem isExc_ok {P : Program} {w : World} {H : Hp} {h : Heap} {a C : Addr} {d : Option Addr} {oe : Obj} {vs : Array Value} (e : h.get? a = some oe) (z : Zc (.ref C) d oe) (hd : oe.data = .fields vs) : ObjOk P w H h a (.ext (isExc a C d)) :=
  ⟨⟨oe, vs, e, z.1, z.2, hd⟩, ⟨oe, e⟩, fun _ _ ⟨o, v, q, r⟩ k => ⟨o, v, k o q, r⟩⟩
end
section
variable {X : Cx} {pins : List (Addr × Obj)} {σ : L2.St} {H : Hp} {s sI : Shared} {a : Addr}
/-- a suite's context, the error tracked -/
theorem Inv.suit (I : L2.Inv X pins σ H s) {o : HO} {oe : Obj} {vs : Array Value} (hx : X.ex = []) (J : L2.Inv X pins σ H sI) (nI : sI.heap.get? a = none) (ha : s.heap.get? a = some oe) (hd : oe.data = .fields vs) (na : H a = none) (nL : a ≠ X.env.locals) (new : ObjOk X.prog X.w (upd H a o) s.heap a o) :
    L2.Inv (X.suite a (X.pn ++ pins)) [] σ (upd H a o) s where
  ok := I.ok.suite _ _
  os := I.os
  bare := I.bare
  base := {
    keep := I.base.keep
    slot := I.base.slot
    free := fun b u e n hb => by
      rw [upd_ne ?_]
      · exact I.base.free b u e n hb
      · rintro rfl
        obtain ⟨o', e'⟩ := J.base.there b u e (by show b ∉ X.ex; rw [hx]; simp)
        rw [nI] at e'
        cases e'
    there := I.base.there
    tups := fun b xs e => by rw [upd_ne (ne_of_none (I.base.tups b xs e) na)]; exact I.base.tups b xs e
    frzs := fun b u xs e => by rw [upd_ne (ne_of_none (I.base.frzs b u xs e) na)]; exact I.base.frzs b u xs e
    tbls := fun b ps e => by
      obtain ⟨more, q⟩ := I.base.tbls b ps e
      exact ⟨more, by rw [upd_ne (ne_of_none q na)]; exact q⟩ }
  loc := I.loc
  cell := I.cell
  free := by rw [upd_ne (Ne.symm nL)]; exact I.free
  freeC := fun x c e => by
    rw [upd_ne ?_]
    · exact I.freeC x c e
    · rintro rfl
      obtain ⟨v, o', q1, q2⟩ := I.cell x c e
      rw [ha] at q1
      cases q1
      rw [hd] at q2
      cases q2
  pin := fun p hp => by
    have hp' : p ∈ X.pn ++ pins := by rw [List.append_nil] at hp; exact hp
    obtain ⟨q1, q2, q3⟩ := I.pin p hp'
    refine ⟨q1, ?_, q3⟩
    rw [upd_ne ?_]
    · exact q2
    · rintro rfl
      have z := (J.pin p hp').1
      rw [nI] at z
      cases z
  hok := I.hok.laidN (fun _ _ z => z) na new
  len := I.len
theorem Inv.unsuit {pn' : List (Addr × Obj)} {H' : Hp} (I : L2.Inv (X.suite a (X.pn ++ pins)) pn' σ H' s) (ok : X.Ok) : L2.Inv X pins σ H' s :=
  ⟨ok, I.os, I.bare, I.base, I.loc, I.cell, I.free, I.freeC, fun p hp => I.pin p (List.mem_append_left _ hp), I.hok, I.len⟩
end
/-- an except clause: its class, its name's slot -/
structure Cl where
  c : Value
  i : Option Nat
  t : TS
def clEnds (D : Ends) : Option Nat → Ends
  | none => D
  | some i => { nx := fun σ' H' => D.nx (σ'.set i none) H', rt := D.rt, bk := fun σ' H' => D.bk (σ'.set i none) H', ct := fun σ' H' => D.ct (σ'.set i none) H' }
def clSt (σ : L2.St) (a : Addr) : Option Nat → L2.St
  | none => σ
  | some i => σ.set i (some (.ref a))
def wTry (K : PySem.W.Frag) (Wout : WX) (D : Ends) : List Cl → WX
  | [] => Wout
  | q :: r => fun cls d σ H => ∃ b, PySem.W.exmOne K cls q.c = some b ∧ (b = true → ∃ C, cls = .ref C ∧ ∀ a, H a = none → q.t (clEnds D q.i) (clSt σ a q.i) (upd H a (.ext (isExc a C d)))) ∧ (b = false → wTry K Wout D r cls d σ H)
inductive ClsOk (X : Cx) : List ExceptHandler → List Cl → Prop
  | nil : ClsOk X [] []
  | one {x : Str} {q : Cl} {b₀ : Stmt} {suite : List Stmt} {np pos' : Pos} {hds : List ExceptHandler} {l : List Cl} (hc : Names X x q.c) (hi : q.i = none)
      (hsu : ∀ (a : Addr) (pn : List (Addr × Obj)), PSs (X.suite a pn) (b₀ :: suite) q.t) (r : ClsOk X hds l) : ClsOk X (.ExceptHandler (some (.Name x np)) none (b₀ :: suite) pos' :: hds) (q :: l)
  | as {x n : Str} {i : Nat} {q : Cl} {b₀ : Stmt} {suite : List Stmt} {np pos' : Pos} {hds : List ExceptHandler} {l : List Cl} (hc : Names X x q.c) (hi : q.i = some i) (hn : X.N[i]? = some n) (hln : X.env.kindOf n = some .local)
      (hsu : ∀ (a : Addr) (pn : List (Addr × Obj)), PSs (X.suite a pn) (b₀ :: suite) q.t) (r : ClsOk X hds l) : ClsOk X (.ExceptHandler (some (.Name x np)) (some n) (b₀ :: suite) pos' :: hds) (q :: l)
section
variable {X : Cx} {body : List Stmt} {h₀ : ExceptHandler} {hds : List ExceptHandler} {l : List Cl} {pos : Pos} {tb : WX → TS} {Wout : WX}
theorem ps_try (hs : X.stack = X.env :: X.outer) (hf : X.env.frame = some X.env.locals) (hx : X.ex = []) (hN : X.N.Nodup) (tk : Takes X Wout)
    (hb : ∀ (W : WX) (pn : List (Addr × Obj)) (xe : Value → Shared → Prop), Takes (X.tr pn xe) W → PassesOwn (model X.prog X.w) X.A X.env xe → PSs (X.tr pn xe) body (tb W))
    (hh : ClsOk X (h₀ :: hds) l) : PS X (.Try body (h₀ :: hds) [] [] pos) (fun D σ H => tb (wTry X.K Wout D l) D σ H) := by
  refine ⟨fun pins s σ H D I h => ?_⟩
  have ok := I.ok
  have hfr : X.A.frames = some (X.env :: X.outer) := by rw [ok.frames, hs]
  refine wpAny_Try_except ?_
  refine wpAny_mono ((hb (wTry X.K Wout D l) (X.pn ++ pins) (fun e s₁ => wpAny (model X.prog X.w) X.A (noteFrame e X.env) (fun _ s₂ => wpAny (model X.prog X.w) X.A (setFlight e none) (fun _ s₃ =>
    wpAny (model X.prog X.w) X.A (handleBy e X.env (h₀ :: hds)) (SP X pins D) X.xe s₃) X.xe s₂) X.xe s₁) (fun u s' xx => ?_) PassesOwn.looking).run [] s σ H D (I.toTry _) h) (fun f s1 hsp => ?_) (fun e s1 he => he)
  · obtain ⟨a, B, sI, pins', σ', H', cls, d, rfl, J', nb, up, sky, na, os, ag, w⟩ := xx
    have J : L2.Inv X pins σ' H' sI := J'.ofTry ok
    have sky' : Sky B (X.env :: X.outer) a (Zc cls d) X.env.locals s'.heap := by rw [← hs]; exact sky
    show wpAny (model X.prog X.w) X.A (noteFrame (.ref a) X.env) _ _ _
    refine Sky.land Zc.steady hfr hf sky' fun h3 fl3 up3 => ?_
    have J3 : L2.Inv X pins σ' H' { s' with heap := h3 } := J.landed nb fl3.1 (up.trans up3) os ag
    obtain ⟨oe3, vs3, he3, hz3, hd3⟩ := fl3.there
    have notFr : ∀ {h : Heap} {o : Obj} {vs : Array Value}, h.FunFrames B (X.env :: X.outer) → h.get? a = some o → o.data = .fields vs → a ∉ frs (X.env :: X.outer) := fun {h o vs} ff e dd hm => by
      obtain ⟨_, o', e', hnf⟩ := ff.mem hm
      rw [e] at e'; cases e'
      exact hnf _ dd
    have nfr := notFr fl3.2.2.1 he3 hd3
    have nL : a ≠ X.env.locals := fun z => nfr (List.mem_filterMap.mpr ⟨X.env, List.mem_cons_self, by rw [hf, z]⟩)
    have nF : a ∉ X.fs := fun hm => by
      obtain ⟨e, he, q⟩ := List.mem_filterMap.mp hm
      exact nfr (List.mem_filterMap.mpr ⟨e, List.mem_cons_of_mem _ he, q⟩)
    have nI : sI.heap.get? a = none := by
      cases q : sI.heap.get? a with
      | none => rfl
      | some o =>
        have z := nb a o q (by rw [hs]; exact nfr)
        have z2 : B.get? a = none := fl3.2.1
        rw [z2] at z
        cases z
    have S3 := J3.suite he3 hd3 na nL nF
    have go : ∀ {hds' : List ExceptHandler} {l' : List Cl}, ClsOk X hds' l' → wTry X.K Wout D l' cls d σ' H' →
        wpAny (model X.prog X.w) X.A (handleBy (.ref a) X.env hds') (SP X pins D) X.xe { s' with heap := h3 } := by
      intro hds' l' hk
      have test0 : ∀ {x : Str} {c : Value} {np : Pos}, Names X x c → ∀ {Q : Value → Shared → Prop} {E : Value → Shared → Prop}, Q c { s' with heap := h3 } → wpAny (model X.prog X.w) (X.A.mark (some (.ref a))) (eval (.Name x np) X.env) Q E { s' with heap := h3 } := fun {x c np} hc {Q E} q => by
        obtain ⟨hg, hdbg, hm | ⟨hm, hv, hnn⟩⟩ := hc
        · exact ld_glob (X := X.suite a ((a, oe3) :: (X.pn ++ pins))) S3 hg hm q hdbg
        · exact ld_blt (X := X.suite a ((a, oe3) :: (X.pn ++ pins))) S3 hg hm hv q hnn hdbg
      have LT : PySem.W.Looks (model X.prog X.w) h3 (typeOf (.ref a)) cls := fun A Q E s k q => wpAny_typeOf_ref (k _ _ he3) (by rw [hz3.1]; exact q)
      induction hk with
      | nil =>
        intro w
        refine wpAny_handleBy_nil ?_
        obtain ⟨k1, k2, k3, oe, vs, T, oT, ts', he, hz, hd, h1, hr⟩ := id fl3
        unfold PySem.passOn
        refine wpAny_bind (wpAny_field he hd h1 ?_)
        rw [if_neg (show ¬ ((Value.ref T == Value.none) = true) from by simp)]
        have fin : wpAny (model X.prog X.w) X.A (setFlight (.ref a) X.env.frame) (fun _ s4 => wpAny (model X.prog X.w) X.A (throw (.ref a) : Sem Flow) (SP X pins D) X.xe s4) X.xe { s' with heap := h3 } := by
          rw [hf]
          refine HandSPX.setFlight_upZ fl3 fun h4 hh4 up4 => wpAny_throw (tk _ _ ?_)
          exact ⟨a, B, sI, pins, σ', H', cls, d, rfl, J, nb, (up.trans up3).trans up4, .inr (.inr (by rw [hs]; exact hh4)), na, os, ag, w⟩
        first
          | exact wpAny_bind (wpAny_pure (wpAny_bind fin))
          | exact wpAny_bind fin
      | @one x q b₀ suite np pos' hds2 l2 hc hi hsu r ih =>
        intro w
        obtain ⟨b, hb1, hyes, hno⟩ := w
        refine wpAny_handleBy_cons (codeAny_handlers_test ?_) (by intro q; cases q)
        have LM := PySem.W.exm_one (M := model X.prog X.w) (J3.kIn) LT hb1
        refine test0 hc (LM.here ?_)
        cases b with
        | true =>
          obtain ⟨C, rfl, hy⟩ := hyes rfl
          refine codeAny_handlers_suite ?_
          refine HandSPX.lands_againZ fl3 fun h4 fl4 up4 => ?_
          have J4 : L2.Inv X pins σ' H' { s' with heap := h4 } := J.landed nb fl4.1 ((up.trans up3).trans up4) os ag
          obtain ⟨oe4, vs4, he4, hz4, hd4⟩ := fl4.there
          have S4 := Mir.Inv.suit (o := .ext (isExc a C d)) J4 hx J nI he4 hd4 na nL (isExc_ok he4 hz4 hd4)
          have hy' := hy a na
          rw [hi] at hy'
          refine wpAny_mono ((hsu a (X.pn ++ pins)).run [] _ _ _ _ S4 hy') (fun f s6 hsp => ?_) (fun _ _ z => False.elim z)
          cases f with
          | next =>
            obtain ⟨σ6, H6, S6, q6⟩ := hsp
            exact ⟨_, _, Inv.unsuit S6 ok, q6⟩
          | brk =>
            obtain ⟨σ6, H6, S6, q6⟩ := hsp
            exact ⟨_, _, Inv.unsuit S6 ok, q6⟩
          | cont =>
            obtain ⟨σ6, H6, S6, q6⟩ := hsp
            exact ⟨_, _, Inv.unsuit S6 ok, q6⟩
          | ret u =>
            obtain ⟨v6, σ6, H6, S6, r6, q6⟩ := hsp
            exact ⟨_, _, _, Inv.unsuit S6 ok, r6, q6⟩
        | false =>
          show wpAny _ X.A (handleBy (.ref a) X.env hds2) _ _ _
          exact ih (hno rfl)
      | @as x n i q b₀ suite np pos' hds2 l2 hc hi hn hln hsu r ih =>
        intro w
        obtain ⟨b, hb1, hyes, hno⟩ := w
        refine wpAny_handleBy_cons (codeAny_handlers_test ?_) (by intro q; cases q)
        have LM := PySem.W.exm_one (M := model X.prog X.w) (J3.kIn) LT hb1
        refine test0 hc (LM.here ?_)
        cases b with
        | true =>
          obtain ⟨C, rfl, hy⟩ := hyes rfl
          refine codeAny_handlers_suite_as ?_
          refine HandSPX.lands_againZ fl3 fun h4 fl4 up4 => ?_
          have J4 : L2.Inv X pins σ' H' { s' with heap := h4 } := J.landed nb fl4.1 ((up.trans up3).trans up4) os ag
          obtain ⟨oe4, vs4, he4, hz4, hd4⟩ := fl4.there
          have S4 := Mir.Inv.suit (o := .ext (isExc a C d)) J4 hx J nI he4 hd4 na nL (isExc_ok he4 hz4 hd4)
          have hloc : Loc X.env.scope n := .inl hln
          have hy' := hy a na
          rw [hi] at hy'
          refine store_ok (X := X.suite a (X.pn ++ pins)) (v := .ref a) S4 hN hn hloc rfl (fun s5 S5 => ?_) (.inr hln)
          refine wpAny_mono ((hsu a (X.pn ++ pins)).run [] s5 _ _ _ S5 hy') (fun f s6 hsp => ?_) (fun _ _ z => False.elim z)
          have end_ : ∀ {σ6 : L2.St} {H6 : Hp} {Q : Shared → Prop}, L2.Inv (X.suite a (X.pn ++ pins)) [] σ6 H6 s6 → (∀ s7, L2.Inv X pins (σ6.set i none) H6 s7 → Q s7) →
              wpAny (model X.prog X.w) X.A (do bindName X.env n .none; unbindBehindTheSuite X.env n pos') (fun _ s7 => Q s7) X.xe s6 := fun {σ6 H6 Q} S6 hq => gone_ok (Inv.unsuit S6 ok) hN hn hln hq
          cases f with
          | next =>
            obtain ⟨σ6, H6, S6, q6⟩ := hsp
            exact end_ S6 fun s7 J7 => ⟨_, _, J7, q6⟩
          | brk =>
            obtain ⟨σ6, H6, S6, q6⟩ := hsp
            exact end_ S6 fun s7 J7 => ⟨_, _, J7, q6⟩
          | cont =>
            obtain ⟨σ6, H6, S6, q6⟩ := hsp
            exact end_ S6 fun s7 J7 => ⟨_, _, J7, q6⟩
          | ret u =>
            obtain ⟨v6, σ6, H6, S6, r6, q6⟩ := hsp
            exact end_ S6 fun s7 J7 => ⟨_, _, _, J7, r6, q6⟩
        | false =>
          show wpAny _ X.A (handleBy (.ref a) X.env hds2) _ _ _
          exact ih (hno rfl)
    exact go hh w
  · cases f with
    | next =>
      obtain ⟨σ', H', J', q⟩ := hsp
      exact wpAny_execs_nil ⟨σ', H', J'.ofTry ok, q⟩
    | brk =>
      obtain ⟨σ', H', J', q⟩ := hsp
      exact ⟨σ', H', J'.ofTry ok, q⟩
    | cont =>
      obtain ⟨σ', H', J', q⟩ := hsp
      exact ⟨σ', H', J'.ofTry ok, q⟩
    | ret u =>
      obtain ⟨v, σ', H', J', r, q⟩ := hsp
      exact ⟨v, σ', H', J'.ofTry ok, r, q⟩
end
theorem MS.unset {G : GC} {J : L2.St → Prop} {H0 F0 F H : Hp} {fp : Nat → List Addr} {σ : L2.St} {r : Env} (m : MS G J H0 F0 fp F σ H r) (i : Nat) (hJ : ∀ σ v, J σ → J (σ.set i v)) : MS G J H0 F0 fp F (σ.set i none) H (r.set i .un) where
  jo := hJ _ _ m.jo
  s0 := m.s0
  t0 := m.t0
  f0 := m.f0
  sub := m.sub
  new := m.new
  len := by simpa using m.len
  sh := fun j e h => by
    rcases get_set_slot h with ⟨_, x, _⟩ | ⟨ne, h⟩
    · cases x
    · rw [List.getElem?_set_ne ne]
      exact m.sh j e h
  ow := fun j s e h => by
    rcases get_set_slot h with ⟨_, x, _⟩ | ⟨ne, h⟩
    · cases x
    · rw [List.getElem?_set_ne ne]
      exact m.ow j s e h
  ap := fun j k s t d e n h1 h2 => by
    rcases get_set_slot h1 with ⟨_, x, _⟩ | ⟨_, h1⟩
    · cases x
    · rcases get_set_slot h2 with ⟨_, x, _⟩ | ⟨_, h2⟩
      · cases x
      · exact m.ap j k s t d e n h1 h2
/-- an except clause over data: the class, the name's slot, the suite -/
structure ClD where
  u : Nat
  i : Option Nat
  g : Env → Oc
def bindI (d : D) (r : Env) : Option Nat → Env
  | none => r
  | some i => r.set i (.sh d)
def clrI (i : Option Nat) (r : Env) : Env := match i with
  | none => r
  | some i => r.set i .un
def closeI (i : Option Nat) : Oc → Oc
  | .nx r => .nx (clrI i r)
  | .bk r => .bk (clrI i r)
  | .ct r => .ct (clrI i r)
  | .rt d => .rt d
  | _ => .bad
def catchD (cs us : List Nat) (e : D) (r : Env) : List ClD → Oc
  | [] => .er e r
  | q :: l => match e with
    | .exc c vs => if cs.contains c = true ∧ us.contains q.u = true then (if overC c q.u = true then closeI q.i (q.g (bindI (.exc c vs) r q.i)) else catchD cs us e r l) else .bad
    | _ => .bad
def tryD (cs us : List Nat) (gb : Env → Oc) (l : List ClD) (r : Env) : Oc := match gb r with
  | .er e r' => catchD cs us e r' l
  | o => o
/-- errors of cs may come where classes of us are named -/
structure CtM (K : PySem.W.Frag) (ca : Nat → Addr) (cs us : List Nat) : Prop where
  h : ∀ c ∈ cs, ∀ u ∈ us, PySem.W.exmOne K (.ref (ca c)) (.ref (ca u)) = some (overC c u)
abbrev WF (J : L2.St → Prop) : Wi := ⟨fun _ _ _ _ => False, J⟩
abbrev toCl (G : GC) (J : L2.St → Prop) (k : Kd) (q : ClD) : Cl := ⟨.ref (G.ca q.u), q.i, tS G (WF J) k q.g⟩
theorem catch_ok {G : GC} {W : Wi} {k : Kd} {cs us : List Nat} {H0 F0 F H : Hp} {fp : Nat → List Addr} {σ : L2.St} {r : Env} {DE : Ends} {e : D} {cls : Value} {dd : Option Addr} (M : CtM G.K G.ca cs us) (m : MS G W.J H0 F0 fp F σ H r) (ex : ExcIs G F cls dd e) :
    ∀ (l : List ClD), (∀ q ∈ l, ∀ i, q.i = some i → ∀ σ v, W.J σ → W.J (σ.set i v)) → OutS G W k H0 F0 F DE (catchD cs us e r l) → wTry G.K W.w DE (l.map (toCl G W.J k)) cls dd σ H
  | [], _, o => o fp F σ H cls dd (Same.refl _) m ex
  | q :: l, hJ, o => by
    obtain ⟨c, ws, vs, rfl, rfl, ra, hx⟩ := ex
    rw [catchD] at o
    split at o
    · rename_i hc
      obtain ⟨h1, h2⟩ := hc
      have hm := M.h c (by simpa using h1) q.u (by simpa using h2)
      refine ⟨overC c q.u, hm, fun hb => ?_, fun hb => ?_⟩
      · rw [if_pos hb] at o
        refine ⟨_, rfl, fun a na => ?_⟩
        have gr : Grow F H (upd F a (.ext (isExc a (G.ca c) dd))) (upd H a (.ext (isExc a (G.ca c) dd))) := Grow.mk1 m.sub na
        have m1 := m.grow gr
        have rv : Rep G (upd F a (.ext (isExc a (G.ca c) dd))) (.ref a) (.exc c vs) := by
          rcases hx with ⟨rfl, z, rfl⟩ | ⟨dx, rfl, e2, hl⟩
          · cases ra
            exact .exc upd_same z
          · exact .excF upd_same (gr.f _ _ e2) hl (ra.mono gr.f)
        have o' : OutS G W k H0 F0 (upd F a (.ext (isExc a (G.ca c) dd))) DE (closeI q.i (q.g (bindI (.exc c vs) r q.i))) := OutS.same o gr.f
        have m2 : MS G W.J H0 F0 fp (upd F a (.ext (isExc a (G.ca c) dd))) (clSt σ a q.i) (upd H a (.ext (isExc a (G.ca c) dd))) (bindI (.exc c vs) r q.i) := by
          cases hi : q.i with
          | none => exact m1
          | some i => exact m1.setS i rv (hJ q List.mem_cons_self i hi)
        refine ⟨H0, F0, fp, _, _, m2, ?_⟩
        have clr : ∀ {fp2 F2 σ2 H2 r2}, MS G W.J H0 F0 fp2 F2 σ2 H2 r2 → ∀ i, q.i = some i → MS G W.J H0 F0 fp2 F2 (σ2.set i none) H2 (r2.set i .un) := fun m3 i hi => m3.unset i (hJ q List.mem_cons_self i hi)
        cases hg : q.g (bindI (.exc c vs) r q.i) with
        | nx r2 =>
          rw [hg] at o'
          intro fp2 F2 σ2 H2 s2 m3
          show (clEnds DE q.i).nx σ2 H2
          cases hi : q.i with
          | none => rw [hi] at o'; exact o' fp2 F2 σ2 H2 s2 m3
          | some i => rw [hi] at o'; exact o' fp2 F2 _ H2 s2 (clr m3 i hi)
        | bk r2 =>
          rw [hg] at o'
          intro fp2 F2 σ2 H2 s2 m3
          show (clEnds DE q.i).bk σ2 H2
          cases hi : q.i with
          | none => rw [hi] at o'; exact o' fp2 F2 σ2 H2 s2 m3
          | some i => rw [hi] at o'; exact o' fp2 F2 _ H2 s2 (clr m3 i hi)
        | ct r2 =>
          rw [hg] at o'
          intro fp2 F2 σ2 H2 s2 m3
          show (clEnds DE q.i).ct σ2 H2
          cases hi : q.i with
          | none => rw [hi] at o'; exact o' fp2 F2 σ2 H2 s2 m3
          | some i => rw [hi] at o'; exact o' fp2 F2 _ H2 s2 (clr m3 i hi)
        | rt d =>
          rw [hg] at o'
          intro F2 H2 v s2 g2 kv
          show (clEnds DE q.i).rt v H2
          cases hi : q.i with
          | none => rw [hi] at o'; exact o' F2 H2 v s2 g2 kv
          | some i => rw [hi] at o'; exact o' F2 H2 v s2 g2 kv
        | er x r2 => rw [hg] at o'; exact o'.elim
        | bad => rw [hg] at o'; exact o'.elim
      · rw [if_neg (by rw [hb]; exact Bool.false_ne_true)] at o
        exact catch_ok M m ⟨c, ws, vs, rfl, rfl, ra, hx⟩ l (fun q hq => hJ q (List.mem_cons_of_mem _ hq)) o
    · exact o.elim
inductive ClsD (X : Cx) (J : L2.St → Prop) (k : Kd) : List ExceptHandler → List ClD → Prop
  | nil : ClsD X J k [] []
  | one {x : Str} {q : ClD} {b₀ : Stmt} {suite : List Stmt} {np pos' : Pos} {hds : List ExceptHandler} {l : List ClD} (hc : Names X x (.ref ((gOf X).ca q.u))) (hi : q.i = none)
      (hsu : ∀ (a : Addr) (pn : List (Addr × Obj)), RSs (X.suite a pn) (WF J) k (b₀ :: suite) q.g) (r : ClsD X J k hds l) : ClsD X J k (.ExceptHandler (some (.Name x np)) none (b₀ :: suite) pos' :: hds) (q :: l)
  | as {x n : Str} {i : Nat} {q : ClD} {b₀ : Stmt} {suite : List Stmt} {np pos' : Pos} {hds : List ExceptHandler} {l : List ClD} (hc : Names X x (.ref ((gOf X).ca q.u))) (hi : q.i = some i) (hn : X.N[i]? = some n) (hln : X.env.kindOf n = some .local) (hJ : ∀ σ v, J σ → J (σ.set i v))
      (hsu : ∀ (a : Addr) (pn : List (Addr × Obj)), RSs (X.suite a pn) (WF J) k (b₀ :: suite) q.g) (r : ClsD X J k hds l) : ClsD X J k (.ExceptHandler (some (.Name x np)) (some n) (b₀ :: suite) pos' :: hds) (q :: l)
theorem ClsD.ok {X : Cx} {J : L2.St → Prop} {k : Kd} : ∀ {hds : List ExceptHandler} {l : List ClD}, ClsD X J k hds l → ClsOk X hds (l.map (toCl (gOf X) J k))
  | _, _, .nil => .nil
  | _, _, .one hc hi hsu r => .one (q := toCl (gOf X) J k _) hc hi hsu (ClsD.ok r)
  | _, _, .as hc hi hn hln _ hsu r => .as (q := toCl (gOf X) J k _) hc hi hn hln hsu (ClsD.ok r)
theorem ClsD.hJ {X : Cx} {J : L2.St → Prop} {k : Kd} : ∀ {hds : List ExceptHandler} {l : List ClD}, ClsD X J k hds l → ∀ q ∈ l, ∀ i, q.i = some i → ∀ σ v, J σ → J (σ.set i v)
  | _, _, .nil, _, h => nomatch h
  | _, _, .one _ hi _ r, q, h => (List.mem_cons.mp h).elim (fun e i z => by subst e; rw [hi] at z; cases z) fun h => ClsD.hJ r q h
  | _, _, .as _ hi _ _ hj _ r, q, h => (List.mem_cons.mp h).elim (fun e i z => by subst e; rw [hi] at z; cases z; exact hj) fun h => ClsD.hJ r q h
theorem rs_try {X : Cx} {W : Wi} {k : Kd} {cs us : List Nat} {body : List Stmt} {h₀ : ExceptHandler} {hds : List ExceptHandler} {l : List ClD} {pos : Pos} {gb : Env → Oc} (M : CtM X.K (gOf X).ca cs us) (hN : X.N.Nodup) (tk : Takes X W.w)
    (hb : ∀ (W' : WX) (pn : List (Addr × Obj)) (xe : Value → Shared → Prop), Takes (X.tr pn xe) W' → PassesOwn (model X.prog X.w) X.A X.env xe → RSs (X.tr pn xe) ⟨W', W.J⟩ k body gb)
    (hh : ClsD X W.J k (h₀ :: hds) l) (hs : X.stack = X.env :: X.outer := by rfl) (hf : X.env.frame = some X.env.locals := by rfl) (hx : X.ex = [] := by rfl) : RS X W k (.Try body (h₀ :: hds) [] [] pos) (tryD cs us gb l) :=
  (ps_try (tb := fun W' => tS (gOf X) ⟨W', W.J⟩ k gb) hs hf hx hN tk hb hh.ok).imp fun D σ H ⟨H0, F0, fp, F, r, m, o⟩ => ⟨H0, F0, fp, F, r, m, by
    unfold tryD at o
    cases e : gb r with
    | er x r' =>
      rw [e] at o
      exact fun fp' F' σ' H' cls dd s m' ex => catch_ok (W := W) M m' ex l hh.hJ (OutS.same (show OutS (gOf X) W k H0 F0 F D (catchD cs us x r' l) from o) s)
    | nx r' => rw [e] at o; exact o
    | bk r' => rw [e] at o; exact o
    | ct r' => rw [e] at o; exact o
    | rt d => rw [e] at o; exact o
    | bad => rw [e] at o; exact o⟩
theorem names_own {X : Cx} {u : Nat} {C : Addr} {x : Str} (hm : X.mg (cname u) = some (.ref C)) (hx : x = cname u := by rfl) (hg : Gl X x := by rfl) (hd : (x == ("__debug__" : Str)) = false := by decide) : Names X x (.ref ((gOf X).ca u)) := by
  subst hx
  exact ⟨hg, hd, .inl (by rw [ca_of (G := gOf X) hm]; exact hm)⟩
end Mir
namespace Mir
open PySem PySem.Spec PyProof.Rows L2
variable [Tn]
def enumL (ds : List D) : List D := ds.zipIdx.map fun p => .tup [.int (p.2 : Nat), p.1]
theorem enumL_get {ds : List D} {i : Nat} {d : D} (h : ds[i]? = some d) : (enumL ds)[i]? = some (.tup [.int (i : Nat), d]) := by
  unfold enumL
  rw [List.getElem?_map, List.getElem?_zipIdx, h]
  simp
theorem enumL_len (ds : List D) : (enumL ds).length = ds.length := by simp [enumL]
section
variable {X : Cx} {W : Wi} {e : Expr} {p pos tpos : Pos} {elts : List Expr} {kk : Nat}
theorem ints_rep {G : GC} {F : Hp} : ∀ ns : List Int, RepAll G F (ns.map V.int) (ns.map D.int)
  | [] => .nil
  | n :: ns => .cons (.int n) (ints_rep ns)
end
end Mir
namespace Mir
open PySem PySem.Spec PyProof.Rows L2
variable [Tn]
def nameG (i : Nat) (d : D) (r : Env) : Res Env := .ok (r.set i (.sh d))
def nilG : List D → Env → Res Env := fun ds r => match ds with
  | [] => .ok r
  | _ => .bad
def consG (g : D → Env → Res Env) (gs : List D → Env → Res Env) : List D → Env → Res Env := fun ds r => match ds with
  | d :: ds => g d r >>= fun r' => gs ds r'
  | [] => .bad
def tupG (n : Nat) (gs : List D → Env → Res Env) : D → Env → Res Env := fun d r => match d with
  | .tup ds => if ds.length = n then gs ds r else .bad
  | _ => .bad
@[simp] theorem nameG_eq (i : Nat) (d : D) (r : Env) : nameG i d r = .ok (r.set i (.sh d)) := rfl
@[simp] theorem nilG_nil (r : Env) : nilG [] r = .ok r := rfl
@[simp] theorem consG_cons (g : D → Env → Res Env) (gs : List D → Env → Res Env) (d : D) (ds : List D) (r : Env) : consG g gs (d :: ds) r = (g d r >>= fun r' => gs ds r') := rfl
@[simp] theorem tupG_tup (n : Nat) (gs : List D → Env → Res Env) (ds : List D) (r : Env) : tupG n gs (.tup ds) r = if ds.length = n then gs ds r else .bad := rfl
section
variable {X : Cx} {J : L2.St → Prop}
theorem gN (i : Nat) {x : Str} {pos : Pos} (hN : X.N.Nodup) (hJ : ∀ σ v, J σ → J (σ.set i v) := by first | exact fun _ _ h => h | exact jset (by decide) | exact jfn (by decide) | exact jb (by decide)) (hi : X.N[i]? = some x := by rfl) (hx : Loc X.env.scope x := by first | exact Or.inl rfl | exact Or.inr rfl) (hf : X.fn x = true ∨ X.env.scope.names.lookup x = some .local := by first | exact .inl rfl | exact .inr rfl) :
    RG X J (.Name x pos) (nameG i) := rg_name i hN hJ hi hx hf
theorem gs0 : RGs X J [] nilG := rgs_nil
theorem gsc {e : Expr} {es : List Expr} {g : D → Env → Res Env} {gs : List D → Env → Res Env} (h1 : RG X J e g) (h2 : RGs X J es gs) (hs : (assignEach (e :: es) X.env).map (·.2) = assign e X.env :: (assignEach es X.env).map (·.2) := by rfl) : RGs X J (e :: es) (consG g gs) := rgs_cons h1 h2 hs
theorem gT {es : List Expr} {kk : Nat} {pos : Pos} {gs : List D → Env → Res Env} (n : Nat) (hc : X.calm = true) (h : RGs X J es gs) (hn : (assignEach es X.env).length = n := by rfl) (hst : (assignEach es X.env).findIdx? (·.1) = none := by rfl) :
    RG X J (.Tuple es kk pos) (tupG n gs) := rg_tup hc h hn hst
end
/-- the attribute f's place in the classes cs -/
def plOf (cs : List Nat) (f : Str) (c : Nat) : Option Nat := if cs.contains c = true then (cflds c).idxOf? f else none
theorem plOf_some {cs : List Nat} {f : Str} {c i : Nat} (h : plOf cs f c = some i) : c ∈ cs ∧ (cflds c)[i]? = some f := by
  unfold plOf at h
  split at h
  · rename_i hc
    refine ⟨by simpa using hc, ?_⟩
    rw [List.idxOf?_eq_some_iff] at h
    obtain ⟨h1, h2, _⟩ := h
    rw [List.getElem?_eq_getElem h1]
    exact congrArg some h2
  · cases h
theorem cflds_nd (c : Nat) : (cflds c).Nodup := by
  unfold cflds
  split <;> decide +kernel
theorem fldM_of {K : PySem.W.Frag} {ca : Nat → Addr} {f : Str} {cs : List Nat} (h : ∀ c ∈ cs, Cls K (ca c) ∧ NoAttr K (ca c) f) : FldM K ca f (plOf cs f) :=
  ⟨fun c i e => let ⟨h1, h2⟩ := plOf_some e; ⟨h2, cflds_nd c, (h c h1).1, (h c h1).2⟩⟩
def objB (K : PySem.W.Frag) (C : Addr) : Bool := PySem.W.plainGet K C Str.empty && (PySem.W.hasDictIn K C && (PySem.W.plainOver K C && (decide (PySem.W.findIn K (.ref C) "__setattr__" = some (some (.builtin "object.__setattr__"))) && (decide (PySem.W.findIn K (.ref C) "__class__" = some (some (.builtin "object.__class__"))) &&
  (decide (PySem.W.specialIn K (.builtin "object.__class__") "__get__" = some (some (.builtin "getset_descriptor.__get__"))) && (decide (PySem.W.takesIn K (.builtin "object.__class__") = some true) && decide (PySem.W.mroIn K C (.type "object") = some true)))))))
theorem objB_ok {K : PySem.W.Frag} {C : Addr} (h : objB K C = true) : ObjC K C := by
  unfold objB at h
  simp only [Bool.and_eq_true, decide_eq_true_eq] at h
  obtain ⟨h1, h2, h3, h4, h5, h6, h7, h8⟩ := h
  exact ⟨⟨h1, h2, h3, h4⟩, h5, h6, h7, h8⟩
def excB (K : PySem.W.Frag) (C : Addr) : Bool := (PySem.W.clsIn K C).isSome && (decide (PySem.W.findIn K (.ref C) "__getattribute__" = some (some (.builtin "BaseException.__getattribute__"))) && (decide (PySem.W.findIn K (.ref C) "__getattr__" = some none) && (decide (PySem.W.subIn K (.ref C) (.type "BaseException") = some true) && (decide (PySem.W.findIn K (.ref C) "__class__" = some (some (.builtin "object.__class__"))) &&
  (decide (PySem.W.specialIn K (.builtin "object.__class__") "__get__" = some (some (.builtin "getset_descriptor.__get__"))) && (decide (PySem.W.takesIn K (.builtin "object.__class__") = some true) && decide (PySem.W.mroIn K C (.type "object") = some true)))))))
theorem excB_ok {K : PySem.W.Frag} {C : Addr} (h : excB K C = true) : ExcC K C := by
  unfold excB at h
  simp only [Bool.and_eq_true, decide_eq_true_eq] at h
  obtain ⟨h1, h2, h3, h4, h5, h6, h7, h8⟩ := h
  exact ⟨h1, h2, h3, h4, h5, h6, h7, h8⟩
def isTab1 (K : PySem.W.Frag) (us : List (Nat × Addr)) (p : Nat × Addr) : Bool := (us.all fun q => decide (PySem.W.kitOne K (.ref p.2) (.ref q.2) = some (overC p.1 q.1))) && ((bT.all fun u => decide (PySem.W.kitOne K (.ref p.2) (.type u) = some (isaT (.c p.1) (.t u)))) && (if p.1 < 10 then objB K p.2 else excB K p.2))
def isTab2 (K : PySem.W.Frag) (q : Nat × Addr) : Bool := bS.all fun b => decide (PySem.W.kitOne K (.type b) (.ref q.2) = some false)
def isTab (K : PySem.W.Frag) (l us : List (Nat × Addr)) : Bool := l.all (isTab1 K us) && us.all (isTab2 K)
theorem isM_of {K : PySem.W.Frag} {ca : Nat → Addr} {l us : List (Nat × Addr)} (hl : ∀ p ∈ l, ca p.1 = p.2) (hu : ∀ p ∈ us, ca p.1 = p.2) (h : isTab K l us = true) : IsM K ca (l.map (·.1)) (us.map (·.1)) := by
  unfold isTab at h
  simp only [Bool.and_eq_true, List.all_eq_true] at h
  obtain ⟨h1, h2⟩ := h
  have one : ∀ p ∈ l, (∀ q ∈ us, PySem.W.kitOne K (.ref p.2) (.ref q.2) = some (overC p.1 q.1)) ∧ (∀ u ∈ bT, PySem.W.kitOne K (.ref p.2) (.type u) = some (isaT (.c p.1) (.t u))) ∧ (if p.1 < 10 then objB K p.2 else excB K p.2) = true := fun p hp => by
    have z := h1 p hp
    unfold isTab1 at z
    simp only [Bool.and_eq_true, List.all_eq_true, decide_eq_true_eq] at z
    exact z
  have two : ∀ q ∈ us, ∀ b ∈ bS, PySem.W.kitOne K (.type b) (.ref q.2) = some false := fun q hq b hb => by
    have z := h2 q hq
    unfold isTab2 at z
    simp only [List.all_eq_true, decide_eq_true_eq] at z
    exact z b hb
  refine ⟨fun c hc u hu' => ?_, fun c hc u hu' => ?_, fun b hb u hu' => ?_, fun c hc h10 => ?_, fun c hc h10 => ?_⟩
  · obtain ⟨p, hp, rfl⟩ := List.mem_map.mp hc
    obtain ⟨q, hq, rfl⟩ := List.mem_map.mp hu'
    rw [hl p hp, hu q hq]
    exact (one p hp).1 q hq
  · obtain ⟨p, hp, rfl⟩ := List.mem_map.mp hc
    rw [hl p hp]
    exact (one p hp).2.1 u hu'
  · obtain ⟨q, hq, rfl⟩ := List.mem_map.mp hu'
    rw [hu q hq]
    exact two q hq b hb
  · obtain ⟨p, hp, rfl⟩ := List.mem_map.mp hc
    rw [hl p hp]
    have z := (one p hp).2.2
    rw [if_pos h10] at z
    exact objB_ok z
  · obtain ⟨p, hp, rfl⟩ := List.mem_map.mp hc
    rw [hl p hp]
    have z := (one p hp).2.2
    rw [if_neg (by omega)] at z
    exact excB_ok z
def ctB (K : PySem.W.Frag) (l us : List (Nat × Addr)) : Bool := l.all fun p => us.all fun q => decide (PySem.W.exmOne K (.ref p.2) (.ref q.2) = some (overC p.1 q.1))
theorem ctM_of {K : PySem.W.Frag} {ca : Nat → Addr} {l us : List (Nat × Addr)} (hl : ∀ p ∈ l, ca p.1 = p.2) (hu : ∀ p ∈ us, ca p.1 = p.2) (h : ctB K l us = true) : CtM K ca (l.map (·.1)) (us.map (·.1)) := by
  unfold ctB at h
  simp only [List.all_eq_true, decide_eq_true_eq] at h
  refine ⟨fun c hc u hu' => ?_⟩
  obtain ⟨p, hp, rfl⟩ := List.mem_map.mp hc
  obtain ⟨q, hq, rfl⟩ := List.mem_map.mp hu'
  rw [hl p hp, hu q hq]
  exact h p hp q hq
/-- an attribute of objects -/
def flB (K : PySem.W.Frag) (f : Str) (l : List (Nat × Addr)) : Bool := l.all fun p => objB K p.2 && decide (PySem.W.findIn K (.ref p.2) f = some none)
theorem fldM_by {K : PySem.W.Frag} {ca : Nat → Addr} {f : Str} {l : List (Nat × Addr)} (hl : ∀ p ∈ l, ca p.1 = p.2) (h : flB K f l = true) : FldM K ca f (plOf (l.map (·.1)) f) := fldM_of fun c hc => by
  obtain ⟨p, hp, rfl⟩ := List.mem_map.mp hc
  rw [hl p hp]
  unfold flB at h
  simp only [List.all_eq_true, Bool.and_eq_true, decide_eq_true_eq] at h
  exact ⟨(objB_ok (h p hp).1).cl, (h p hp).2⟩
theorem clM_by {K : PySem.W.Frag} {ca : Nat → Addr} {f : Str} {l : List (Nat × Addr)} {c : Nat} (hl : ∀ p ∈ l, ca p.1 = p.2) (h : flB K f l = true) (hc : c ∈ l.map (·.1)) : ClM K ca f c := by
  obtain ⟨p, hp, rfl⟩ := List.mem_map.mp hc
  unfold flB at h
  simp only [List.all_eq_true, Bool.and_eq_true, decide_eq_true_eq] at h
  have z := h p hp
  refine ⟨?_, ?_, cflds_nd _⟩
  · rw [hl p hp]; exact (objB_ok z.1).cl
  · rw [hl p hp]; exact z.2
/-- an error class without an __init__ of its own -/
def e0B (K : PySem.W.Frag) (C : Addr) : Bool := PySem.W.excIn K C veT "ValueError.__new__" && (PySem.W.keepIn K (.ref C) && (decide (PySem.W.subIn K (.ref C) (.type "BaseException") = some true) && decide (PySem.W.typeIn K (.ref C) = some (.type "type"))))
theorem exM0_by {K : PySem.W.Frag} {mg : Str → Option Value} {C : Addr} {c : Nat} (hm : mg (cname c) = some (.ref C)) (h : e0B K C = true) (no : cflds c = [] := by rfl) : ExM0 K mg C c := by
  unfold e0B at h
  simp only [Bool.and_eq_true, decide_eq_true_eq] at h
  obtain ⟨h1, h2, h3, h4⟩ := h
  exact ⟨hm, h1, h2, h3, h4, no⟩
/-- .. with one -/
def oexB (K : PySem.W.Frag) (C : Addr) : Bool := decide (PySem.W.findIn K (.ref C) "__setattr__" = some (some (.builtin "object.__setattr__"))) && (decide (PySem.W.subIn K (.ref C) (.type "BaseException") = some true) && (decide (PySem.W.typeIn K (.ref C) = some (.type "type")) && PySem.W.keepIn K (.ref C)))
theorem oexC_by {K : PySem.W.Frag} {C : Addr} {nm q : Str} {N : Addr} {bs bm : List Value} {sn : List Str} {sub : List Value} {ab : Bool} {col : Option Bool} {dd : Option Addr} {k0 k1 k2 k3 k5 : Option Value}
    (hC : K.lookup C = some (excClassObj nm q C N bs bm true sn sub ab col dd k0 k1 k2 k3 k5 "ValueError.__new__")) (hb : PySem.HandSPX.refsVE bm = true) (h : oexB K C = true) : OexC K C := by
  unfold oexB at h
  simp only [Bool.and_eq_true, decide_eq_true_eq] at h
  obtain ⟨h1, h2, h3, h4⟩ := h
  exact ⟨⟨nm, q, N, bs, bm, sn, sub, ab, col, dd, k0, k1, k2, k3, k5, hC, hb⟩, h1, h2, h3, h4⟩
theorem cg_by {P : Program} {w : World} {K : PySem.W.Frag} {mg : Str → Option Value} {c : Nat} {C : Addr} (h : mg (cname c) = some (.ref C)) : mg (cname c) = some (.ref ((⟨P, w, K, mg⟩ : GC).ca c)) := by
  rw [ca_of (G := ⟨P, w, K, mg⟩) h]
  exact h
theorem nT_same (H : Hp) : Same (nT H) H := fun _ _ e => (nT_of e).1
theorem tt_start {H : Hp} {cs : List (Addr × Addr)} (hl : Tn.l = cs.map (·.2)) (hH : ∀ p ∈ cs, H p.2 = some (.tbl #[])) : Tt (nT H) H := fun P hP => by
  rw [hl] at hP
  obtain ⟨p, hp, rfl⟩ := List.mem_map.mp hP
  refine ⟨?_, #[], hH p hp, True.intro, fun pos cv e => ?_⟩
  · unfold nT
    rw [hH p hp]
  · have z : codeAmong pos [] = some cv := e
    simp [codeAmong] at z
/-- the tables: the def's name, where it stands, its code object, its table -/
abbrev TbE := Str × Addr × Addr × Addr
def tabKB (K : PySem.W.Frag) (t : TbE) : Bool := (match K.lookup t.2.1 with
  | some ⟨_, _, .func fd, _⟩ => (match fd.code with | .ref c => decide (c = t.2.2.1) | _ => false)
  | _ => false) && (PySem.W.codeHdIn K t.2.2.1 t.2.2.2 && ((match K.lookup t.2.2.1 with
  | some ⟨_, _, .fields vs, _⟩ => (match (vs[11]? : Option Value) with | some (.ref P) => decide (P = t.2.2.2) | _ => false)
  | _ => false) && (K.lookup t.2.2.2).isNone))
theorem tabKB_some {K : PySem.W.Frag} {t : TbE} (h : tabKB K t = true) : (∃ (o : Obj) (fd : FuncData), K.lookup t.2.1 = some o ∧ o.data = .func fd ∧ fd.code = .ref t.2.2.1) ∧ PySem.W.codeHdIn K t.2.2.1 t.2.2.2 = true ∧
    (∃ (e : Value) (dd : Option Addr) (vs : Array Value) (sl : Array (Option Value)), K.lookup t.2.2.1 = some ⟨e, dd, .fields vs, sl⟩ ∧ vs[11]? = some (.ref t.2.2.2)) ∧ K.lookup t.2.2.2 = none := by
  unfold tabKB at h
  simp only [Bool.and_eq_true] at h
  obtain ⟨h1, h2, h3, h4⟩ := h
  refine ⟨?_, h2, ?_, by simpa using h4⟩
  · split at h1
    · rename_i fd _ e
      split at h1
      · rename_i c ec
        have := of_decide_eq_true h1
        subst this
        exact ⟨_, fd, e, rfl, ec⟩
      · cases h1
    · cases h1
  · split at h3
    · rename_i vs _ e
      split at h3
      · rename_i c ec
        have := of_decide_eq_true h3
        rw [this] at ec
        exact ⟨_, _, vs, _, e, ec⟩
      · cases h3
    · cases h3
/-- the law's promise, and the tables that it leans on -/
def LawT (P : Program) (w : World) (K : PySem.W.Frag) (q : Program) (k : Nat) (x : Str) (mg : Str → Option Value) (fa : Addr) (g : List D → Res D) : Prop :=
  ∃ (tn : Tn) (fd : FuncData) (ts : List TbE), tn.l = ts.map (·.2.2.2) ∧ (∀ t ∈ ts, ((recsOf q).any fun e => e.name == t.1) = true ∧ mg t.1 = some (.ref t.2.1) ∧ tabKB K t = true) ∧ (∀ (s : Shared) (u : Value), BindsTo s fd ⟨[u], []⟩ [(x, u)]) ∧
    ∀ base : Heap, K.In base → base.Ns mainGlobals mg → (∀ t ∈ ts, LamX.TabB base mg t.2.2.1 t.2.2.2) → FnOk P w K mg base (L2.CX P w) k fa fd [x] (@spM tn ⟨P, w, K, mg⟩ .S g)
theorem walk_mir {l : PySem.W.OpenLaw} {k : Nat} {q : Program} {loose : List Str} {XP : (Str → Option Value) → Heap → Prop} {YP : World → Heap → Prop} {d : DefRec} {K : Params → PySem.W.Frag} {x : Str} {g : List D → Res D}
    (hn : l.most = some 63) (hdf : d.params.defaults = []) (hr : Room k callerA) (hY : ∀ (w : World) (h : Heap), YP w h → (K w.params).In h) (hg : ∀ ns : List Int, ns.length ≤ 63 → g [.scr ns] = .ok (.bl true))
    (F : ∀ (w : World) (mg : Str → Option Value) (fa : Addr) (h : Heap), (K w.params).In h → h.Ns mainGlobals mg → mg d.name = some (.ref fa) → LawT l.prog w (K w.params) q k x mg fa g) :
    PySem.W.WalkO q loose XP YP l.row.toRowW d [] (fun f vs => PySem.call f vs) := by
  refine Att.attach_callB hn hdf fun w s₀ s₁ mg mb fa o pm cd doc a vs ns G Y ho hd hcd hmg hobj hints hlen hbits hg' => ?_
  have KX := hY w _ Y
  obtain ⟨tn, fd, ts, hl, ht, hb, hF⟩ := F w mg fa _ KX G.T.g hmg
  have emp : ∀ t ∈ ts, s₁.heap.get? t.2.2.2 = some { cls := .none, data := .fields #[] } := fun t htm => by
    obtain ⟨hrec, hmt, hk⟩ := ht t htm
    obtain ⟨⟨o1, fd1, k1, k2, k3⟩, _, ⟨e, dd, vs1, sl, k4, k5⟩, _⟩ := tabKB_some hk
    obtain ⟨dL, hm, hn1⟩ := List.any_eq_true.mp hrec
    have hn2 : dL.name = t.1 := beq_iff_eq.mp hn1
    obtain ⟨a', o', fd', c', P', h1, h2, h3, h4, h5, h6⟩ := G.T.tab dL hm
    rw [hn2, hmt] at h1
    cases h1
    have g1 := KX _ _ k1
    rw [g1] at h2
    cases h2
    rw [k2] at h3
    cases h3
    rw [k3] at h4
    cases h4
    obtain ⟨⟨oc, vc, e1, _, e3, e4⟩, hP⟩ := h6
    have g2 := KX _ _ k4
    rw [g2] at e1
    cases e1
    cases e3
    rw [k5] at e4
    cases e4
    exact hP
  refine LamX.law_callTs (cs := ts.map (·.2.2)) KX G.T.g G.T.b G.T.builtins G.T.nolimit hg' (fun p hp => ?_) (fun p hp => ?_) (fun p hp => ?_) G.T.bmain hobj hints (Nat.le_trans hlen (by rw [sizeLine_eq]; decide)) hr (fun base h1 h2 h3 => hF base h1 h2 fun t htm => h3 t.2.2 (List.mem_map.mpr ⟨t, htm, rfl⟩)) hb (fun H hH hS => ?_) fun H e s' c => ?_
  · obtain ⟨t, htm, rfl⟩ := List.mem_map.mp hp
    exact emp t htm
  · obtain ⟨t, htm, rfl⟩ := List.mem_map.mp hp
    exact (tabKB_some (ht t htm).2.2).2.2.2
  · obtain ⟨t, htm, rfl⟩ := List.mem_map.mp hp
    exact PySem.W.codeHd_of_K KX (tabKB_some (ht t htm).2.2).2.1
  · refine ⟨nT H, [.scr ns], nT_same H, tt_start (cs := ts.map (·.2.2)) (by rw [hl, List.map_map]; rfl) hH, .cons (.scr (sqL_nT hS)) .nil, ?_⟩
    rw [hg ns hlen]
    intro F' H' _ v kv
    cases (show Rep _ F' v (.bl true) from kv)
    rfl
  · obtain ⟨a, B, H', cls, d, rfl, fl, hok, ub, na, os, ag, hE⟩ := c
    exact hE
end Mir
namespace Mir
open PySem PySem.Spec PyProof.Rows L2
variable [Tn]
@[simp] def tupD (ds : List D) : Res D := if ds.length ≤ lim then .ok (.tup ds) else .bad
def raiseD (c : Nat) (ds : List D) (r : Env) : Oc := if ds.length = (cflds c).length ∧ ds.length ≤ 1000 then .er (.exc c ds.reverse) r else .bad
theorem boot_ty_int : bootBuiltins "int" = some (.type "int") := by decide +kernel
theorem boot_ty_bool : bootBuiltins "bool" = some (.type "bool") := by decide +kernel
theorem boot_ty_tuple : bootBuiltins "tuple" = some (.type "tuple") := by decide +kernel
theorem boot_ty_list : bootBuiltins "list" = some (.type "list") := by decide +kernel
/-- a name's own value is shared behind a statement -/
def shareAt (i : Nat) : Oc → Oc
  | .nx r => .nx (freeze i r)
  | o => o
theorem rs_shareLc {X : Cx} {W : Wi} {k : Kd} (i : Nat) {s : Stmt} {g : Env → Oc} (h : RS X W k s g) : RS X W k s (fun r => shareAt i (g r)) :=
  h.imp fun D σ H ⟨H0, F0, fp, F, r, m, o⟩ => ⟨H0, F0, fp, F, r, m, by
    have o : OutS (gOf X) W k H0 F0 F D (shareAt i (g r)) := o
    show OutS (gOf X) W k H0 F0 F D (g r)
    cases e : g r with
    | nx r' =>
      rw [e] at o
      intro fp' F' σ' H' s' m'
      obtain ⟨F2, s2, m2⟩ := m'.freeze i
      exact o fp' F2 σ' H' (s'.trans s2) m2
    | rt d => rw [e] at o; exact o
    | bk r' => rw [e] at o; exact o
    | ct r' => rw [e] at o; exact o
    | er x r' => rw [e] at o; exact o
    | bad => rw [e] at o; exact o⟩
theorem re_gI {X : Cx} {W : Wi} {x : Str} {pos : Pos} {i : Int} (hm : ∃ t, X.mg x = some (.int i t)) (hg : Gl X x := by rfl) (hd : (x == ("__debug__" : Str)) = false := by decide) : RE X W .S (.Name x pos) (fun _ => .ok (.int i)) :=
  let ⟨_, h⟩ := hm
  re_gInt h hg hd
/-- how many turns of a while are looked after -/
@[irreducible] def turns : Nat := 1000000
theorem turns_eq : turns = 1000000 := by unfold turns; rfl
/-- a while of at most so many turns -/
def loopD (c : Env → Res Bool) (b : Env → Oc) (r : Env) : Oc := whileD c b turns r
theorem rs_loop {X : Cx} {W : Wi} {k : Kd} {c : Expr} {body : List Stmt} {pos : Pos} {f : Env → Res Bool} {gb : Env → Oc} (hp : PassesOwn (model X.prog X.w) X.A X.env X.xe) (hc : RT X W c f) (hb : RSs X W k body gb) : RS X W k (.While c body [] pos) (loopD f gb) := rs_while hp hc hb fun _ => turns
end Mir
namespace Mir
open PySem PySem.Spec PyProof.Rows L2
variable [Tn]
def okQ : Nat → D → Bool
  | _, .non => true
  | _, .bl _ => true
  | _, .int _ => true
  | _, .str s => PyData.strOk s
  | n + 1, .tup xs => xs.all (okQ n)
  | n + 1, .lst xs => xs.all (okQ n)
  | _, _ => false
mutual
def eqQ : D → D → Bool
  | .non, .non => true
  | .bl a, .bl b => a == b
  | .bl a, .int j => (if a = true then 1 else 0) == j
  | .int i, .bl b => i == (if b = true then 1 else 0)
  | .int i, .int j => i == j
  | .str x, .str y => x == y
  | .lst xs, .lst ys => eqQs xs ys
  | .tup xs, .tup ys => eqQs xs ys
  | _, _ => false
def eqQs : List D → List D → Bool
  | [], [] => true
  | x :: xs, y :: ys => eqQ x y && eqQs xs ys
  | _, _ => false
end
theorem toPy_ok : ∀ (n : Nat) (d : D), okQ n d = true → ∃ p, toPy d = some p ∧ p.canLay0 = true ∧ p.depth ≤ n := by
  have all : ∀ (n : Nat), (∀ d, okQ n d = true → ∃ p, toPy d = some p ∧ p.canLay0 = true ∧ p.depth ≤ n) → ∀ xs : List D, xs.all (okQ n) = true → ∃ ps, toPy.toPys xs = some ps ∧ PyData.canLayAll0 ps = true ∧ PyData.depthAll ps ≤ n := fun n h xs => by
    induction xs with
    | nil => exact fun _ => ⟨[], by rw [toPy.toPys], by rw [PyData.canLayAll0], by rw [PyData.depthAll]; omega⟩
    | cons x xs ih =>
      intro hx
      rw [List.all_cons, Bool.and_eq_true] at hx
      obtain ⟨p, h1, h2, h3⟩ := h x hx.1
      obtain ⟨ps, h4, h5, h6⟩ := ih hx.2
      exact ⟨p :: ps, by rw [toPy.toPys, h1, h4], by rw [PyData.canLayAll0, h2, h5]; rfl, by rw [PyData.depthAll]; omega⟩
  intro n
  induction n with
  | zero =>
    intro d h
    cases d with
    | non => exact ⟨.none, by rw [toPy], by rw [PyData.canLay0], by rw [PyData.depth]; omega⟩
    | bl b => exact ⟨.bool b, by rw [toPy], by rw [PyData.canLay0], by rw [PyData.depth]; omega⟩
    | int i => exact ⟨.int i, by rw [toPy], by rw [PyData.canLay0], by rw [PyData.depth]; omega⟩
    | str s => exact ⟨.str s, by rw [toPy], by rw [PyData.canLay0]; simpa [okQ] using h, by rw [PyData.depth]; omega⟩
    | _ => simp [okQ] at h
  | succ n ih =>
    intro d h
    cases d with
    | non => exact ⟨.none, by rw [toPy], by rw [PyData.canLay0], by rw [PyData.depth]; omega⟩
    | bl b => exact ⟨.bool b, by rw [toPy], by rw [PyData.canLay0], by rw [PyData.depth]; omega⟩
    | int i => exact ⟨.int i, by rw [toPy], by rw [PyData.canLay0], by rw [PyData.depth]; omega⟩
    | str s => exact ⟨.str s, by rw [toPy], by rw [PyData.canLay0]; simpa [okQ] using h, by rw [PyData.depth]; omega⟩
    | tup xs =>
      obtain ⟨ps, h1, h2, h3⟩ := all n ih xs (by simpa [okQ] using h)
      exact ⟨.tuple ps, by rw [toPy, h1]; rfl, by rw [PyData.canLay0, h2], by rw [PyData.depth]; omega⟩
    | lst xs =>
      obtain ⟨ps, h1, h2, h3⟩ := all n ih xs (by simpa [okQ] using h)
      exact ⟨.list ps, by rw [toPy, h1]; rfl, by rw [PyData.canLay0, h2], by rw [PyData.depth]; omega⟩
    | _ => simp [okQ] at h
theorem eqv_eqQ : ∀ (n : Nat) (a b : D) (p q : PyData), okQ n a = true → toPy a = some p → toPy b = some q → PyData.eqv p q = eqQ a b := by
  have all : ∀ (n : Nat), (∀ (a b : D) (p q : PyData), okQ n a = true → toPy a = some p → toPy b = some q → PyData.eqv p q = eqQ a b) → ∀ (xs ys : List D) (ps qs : List PyData), xs.all (okQ n) = true → toPy.toPys xs = some ps → toPy.toPys ys = some qs → PyData.eqvAll ps qs = eqQs xs ys := fun n h xs => by
    induction xs with
    | nil =>
      intro ys ps qs _ h1 h2
      rw [toPy.toPys] at h1
      cases h1
      cases ys with
      | nil => rw [toPy.toPys] at h2; cases h2; simp [PyData.eqvAll, eqQs]
      | cons y ys =>
        rw [toPy.toPys] at h2
        split at h2
        · cases h2; simp [PyData.eqvAll, eqQs]
        · cases h2
    | cons x xs ih =>
      intro ys ps qs h0 h1 h2
      rw [List.all_cons, Bool.and_eq_true] at h0
      rw [toPy.toPys] at h1
      split at h1
      · rename_i p ps' e1 e2
        cases h1
        cases ys with
        | nil => rw [toPy.toPys] at h2; cases h2; simp [PyData.eqvAll, eqQs]
        | cons y ys =>
          rw [toPy.toPys] at h2
          split at h2
          · rename_i q qs' e3 e4
            cases h2
            rw [PyData.eqvAll, eqQs, h x y p q h0.1 e1 e3, ih ys ps' qs' h0.2 e2 e4]
          · cases h2
      · cases h1
  intro n
  induction n with
  | zero =>
    intro a b p q h0 h1 h2
    cases a <;> first | (simp [okQ] at h0; done) | skip
    all_goals (simp only [toPy, Option.some.injEq] at h1; subst h1)
    all_goals cases b
    all_goals first
      | (simp only [toPy, Option.some.injEq] at h2; subst h2; simp [PyData.eqv, eqQ]; done)
      | (simp only [toPy, Option.map_eq_some_iff] at h2; obtain ⟨qs, _, h2⟩ := h2; subst h2; simp [PyData.eqv, eqQ]; done)
      | (simp [toPy] at h2; done)
  | succ n ih =>
    intro a b p q h0 h1 h2
    cases a <;> first | (simp [okQ] at h0; done) | skip
    all_goals first
      | (simp only [toPy, Option.some.injEq] at h1; subst h1)
      | (simp only [toPy, Option.map_eq_some_iff] at h1; obtain ⟨ps, e1, h1⟩ := h1; subst h1)
    all_goals cases b
    all_goals first
      | (simp only [toPy, Option.some.injEq] at h2; subst h2; simp [PyData.eqv, eqQ]; done)
      | (simp only [toPy, Option.map_eq_some_iff] at h2; obtain ⟨qs, e2, h2⟩ := h2; subst h2; first | (simp [PyData.eqv, eqQ]; done) | (rw [PyData.eqv, eqQ]; exact all n ih _ _ _ _ (by simpa [okQ] using h0) e1 e2))
      | (simp [toPy] at h2; done)
theorem eqS_ok {a b : D} (ha : okQ 64 a = true) (hb : okQ 64 b = true) : eqS a b = .ok (.bl (eqQ a b)) := by
  obtain ⟨p, h1, h2, h3⟩ := toPy_ok 64 a ha
  obtain ⟨q, h4, h5, h6⟩ := toPy_ok 64 b hb
  unfold eqS
  rw [h1, h4]
  have s1 : SeqAt.shaped p = true := by unfold SeqAt.shaped; rw [h2]; simpa using h3
  have s2 : SeqAt.shaped q = true := by unfold SeqAt.shaped; rw [h5]; simpa using h6
  simp only [s1, s2, and_self, if_true, eqv_eqQ 64 a b p q ha h1 h4]
theorem neS_ok {a b : D} (ha : okQ 64 a = true) (hb : okQ 64 b = true) : neS a b = .ok (.bl (!eqQ a b)) := by
  obtain ⟨p, h1, h2, h3⟩ := toPy_ok 64 a ha
  obtain ⟨q, h4, h5, h6⟩ := toPy_ok 64 b hb
  unfold neS
  rw [h1, h4]
  have s1 : SeqAt.shaped p = true := by unfold SeqAt.shaped; rw [h2]; simpa using h3
  have s2 : SeqAt.shaped q = true := by unfold SeqAt.shaped; rw [h5]; simpa using h6
  simp only [s1, s2, and_self, if_true, eqv_eqQ 64 a b p q ha h1 h4]
theorem eqQ_refl : ∀ (n : Nat) (a : D), okQ n a = true → eqQ a a = true := by
  have all : ∀ n, (∀ a, okQ n a = true → eqQ a a = true) → ∀ xs : List D, xs.all (okQ n) = true → eqQs xs xs = true := fun n h xs => by
    induction xs with
    | nil => intro _; rw [eqQs]
    | cons x xs ih =>
      intro h0
      rw [List.all_cons, Bool.and_eq_true] at h0
      rw [eqQs, h x h0.1, ih h0.2]
      rfl
  intro n
  induction n with
  | zero =>
    intro a h
    cases a <;> first | (simp [okQ] at h; done) | simp [eqQ]
  | succ n ih =>
    intro a h
    cases a <;> first | (simp [okQ] at h; done) | (simp [eqQ]; done) | (rw [eqQ]; exact all n ih _ (by simpa [okQ] using h))
/-- a tuple, a list of whole numbers -/
abbrev tuI (xs : List Int) : D := .tup (xs.map .int)
abbrev liI (xs : List Int) : D := .lst (xs.map .int)
theorem okQ_ints (n : Nat) (xs : List Int) : (xs.map D.int).all (okQ n) = true := by
  rw [List.all_eq_true]
  intro x hx
  obtain ⟨i, _, rfl⟩ := List.mem_map.mp hx
  cases n <;> rfl
@[simp] theorem okQ_int (n : Nat) (i : Int) : okQ n (.int i) = true := by cases n <;> rfl
@[simp] theorem okQ_bl (n : Nat) (i : Bool) : okQ n (.bl i) = true := by cases n <;> rfl
@[simp] theorem okQ_non (n : Nat) : okQ n .non = true := by cases n <;> rfl
@[simp] theorem okQ_str (n : Nat) (s : Str) : okQ n (.str s) = PyData.strOk s := by cases n <;> rfl
@[simp] theorem okQ_tI (n : Nat) (xs : List Int) : okQ (n + 1) (tuI xs) = true := okQ_ints n xs
theorem eqQs_ints : ∀ xs ys : List Int, eqQs (xs.map D.int) (ys.map D.int) = decide (xs = ys)
  | [], [] => by simp [eqQs]
  | [], _ :: _ => by simp [eqQs]
  | _ :: _, [] => by simp [eqQs]
  | x :: xs, y :: ys => by
    rw [List.map_cons, List.map_cons, eqQs, eqQs_ints xs ys, eqQ]
    by_cases h : x = y <;> by_cases h2 : xs = ys <;> simp [h, h2]
@[simp] theorem eqS_int (i j : Int) : eqS (.int i) (.int j) = .ok (.bl (decide (i = j))) := by
  rw [eqS_ok (by simp) (by simp), eqQ]
  by_cases h : i = j <;> simp [h]
@[simp] theorem neS_int (i j : Int) : neS (.int i) (.int j) = .ok (.bl (!decide (i = j))) := by
  rw [neS_ok (by simp) (by simp), eqQ]
  by_cases h : i = j <;> simp [h]
@[simp] theorem addD_int (i j : Int) : addD (.int i) (.int j) = .ok (.int (i + j)) := rfl
@[simp] theorem subD_int (i j : Int) : subD (.int i) (.int j) = .ok (.int (i - j)) := rfl
theorem modD_ok {i j : Int} (h : 0 < j) : modD (.int i) (.int j) = .ok (.int (i % j)) := if_pos h
theorem mulD_small {i j : Int} (h : CMul i j) : mulD (.int i) (.int j) = .ok (.int (i * j)) := by
  show (if bits i + bits j < 1000000 ∨ CMul i j then _ else _) = _
  rw [if_pos (.inr h)]
theorem divD_ok {i j : Int} (h : 0 < j) (h2 : bits j < 250) : divD (.int i) (.int j) = .ok (.int (i / j)) := if_pos ⟨h, by omega⟩
@[simp] theorem gtD_int (i j : Int) : gtD (.int i) (.int j) = .ok (.bl (decide (j < i))) := rfl
@[simp] theorem ltD_int (i j : Int) : ltD (.int i) (.int j) = .ok (.bl (decide (i < j))) := rfl
@[simp] theorem leD_int (i j : Int) : leD (.int i) (.int j) = .ok (.bl (decide (i ≤ j))) := rfl
@[simp] theorem geD_int (i j : Int) : geD (.int i) (.int j) = .ok (.bl (decide (j ≤ i))) := rfl
@[simp] theorem asB_bl (b : Bool) : asB (.bl b) = .ok b := rfl
@[simp] theorem getS0 (d : D) (r : Env) : getS 0 (.sh d :: r) = .ok d := rfl
@[simp] theorem getR0 (d : D) (r : Env) : getR 0 (.sh d :: r) = .ok d := rfl
@[simp] theorem getR0o (d : D) (r : Env) : getR 0 (.ow .flat d :: r) = .ok d := rfl
@[simp] theorem getS_succ (i : Nat) (x : Slot) (r : Env) : getS (i + 1) (x :: r) = getS i r := by simp [getS]
@[simp] theorem getR_succ (i : Nat) (x : Slot) (r : Env) : getR (i + 1) (x :: r) = getR i r := by simp [getR]
@[simp] theorem lenD_lst (xs : List D) : lenD (.lst xs) = .ok (.int xs.length) := rfl
@[simp] theorem lenD_tup (xs : List D) : lenD (.tup xs) = .ok (.int xs.length) := rfl
@[simp] theorem lenD_scr (xs : List Int) : lenD (.scr xs) = .ok (.int xs.length) := rfl
@[simp] theorem sumD_scr (xs : List Int) : sumD (.scr xs) = .ok (.int xs.sum) := rfl
@[simp] theorem seq_ite (c : Prop) [Decidable c] (a b : Oc) (g : Env → Oc) : (if c then a else b).seq g = if c then a.seq g else b.seq g := by split <;> rfl
theorem runD_rt {p n : Nat} {g : Env → Oc} {ds : List D} {d : D} (h : ds.length = p) (e : g (startD n ds) = .rt d) : runD p n g ds = .ok d := by
  unfold runD
  rw [if_pos h, e]
theorem runD_nx {p n : Nat} {g : Env → Oc} {ds : List D} {r : Env} (h : ds.length = p) (e : g (startD n ds) = .nx r) : runD p n g ds = .ok .non := by
  unfold runD
  rw [if_pos h, e]
theorem runD_er {p n : Nat} {g : Env → Oc} {ds : List D} {r : Env} {d : D} (h : ds.length = p) (e : g (startD n ds) = .er d r) : runD p n g ds = .er d := by
  unfold runD
  rw [if_pos h, e]
theorem lcD_map {g : D → Env → Res Env} {t : Env → Res Bool} {f : Env → Res D} {r : Env} (F : D → D) : ∀ {ds : List D}, (∀ d ∈ ds, ∃ r1, g d r = .ok r1 ∧ t r1 = .ok true ∧ f r1 = .ok (F d)) → lcD g t f r ds = .ok (ds.map F)
  | [], _ => rfl
  | d :: ds, h => by
    obtain ⟨r1, h1, h2, h3⟩ := h d List.mem_cons_self
    rw [lcD, h1]
    simp only [nE_ok, ok_bind, h2, if_true, h3, lcD_map F fun d hd => h d (List.mem_cons_of_mem _ hd)]
    rfl
theorem forD_ix {f : D → Env → Oc} {ds : List D} (P : Nat → Env → Prop) (h : ∀ i d, ds[i]? = some d → ∀ r, P i r → ∃ r', f d r = .nx r' ∧ P (i + 1) r') {r : Env} (h0 : P 0 r) : ∃ r', forD f ds r = .nx r' ∧ P ds.length r' := by
  have go : ∀ (ds : List D) (k : Nat) (r : Env), (∀ i d, ds[i]? = some d → ∀ r, P (k + i) r → ∃ r', f d r = .nx r' ∧ P (k + i + 1) r') → P k r → ∃ r', forD f ds r = .nx r' ∧ P (k + ds.length) r' := fun ds => by
    induction ds with
    | nil => exact fun k r _ h0 => ⟨r, rfl, h0⟩
    | cons d ds ih =>
      intro k r h h0
      obtain ⟨r1, h1, h2⟩ := h 0 d rfl r h0
      obtain ⟨r2, h3, h4⟩ := ih (k + 1) r1 (fun i e he r hr => by
        have z := h (i + 1) e (by simpa using he) r (by rw [show k + (i + 1) = k + 1 + i by omega]; exact hr)
        rw [show k + (i + 1) + 1 = k + 1 + i + 1 by omega] at z
        exact z) h2
      refine ⟨r2, ?_, by rw [List.length_cons, show k + (ds.length + 1) = k + 1 + ds.length by omega]; exact h4⟩
      rw [forD_cons, h1]
      exact h3
  obtain ⟨r', h1, h2⟩ := go ds 0 r (fun i d hd r hr => by
    rw [Nat.zero_add] at hr ⊢
    exact h i d hd r hr) h0
  exact ⟨r', h1, by rw [Nat.zero_add] at h2; exact h2⟩
/-- each turn goes on, P stays -/
theorem forD_all {f : D → Env → Oc} {ds : List D} (P : Env → Prop) (h : ∀ d ∈ ds, ∀ r, P r → ∃ r', f d r = .nx r' ∧ P r') {r : Env} (h0 : P r) : ∃ r', forD f ds r = .nx r' ∧ P r' :=
  forD_ix (fun _ => P) (fun i d hd r hr => h d (List.mem_of_getElem? hd) r hr) h0
@[simp] theorem rangeL_zero (lo : Int) : rangeL lo 0 = [] := rfl
theorem rng1_ok {n : Int} (h0 : -1000000000 ≤ n) (h1 : n ≤ 1000000000) : rng1 [.int n] = .ok (rangeL 0 n.toNat) := if_pos ⟨h0, h1⟩
@[simp] theorem rangeL_len (lo : Int) (n : Nat) : (rangeL lo n).length = n := by simp [rangeL]
end Mir
namespace Mir
open PySem PySem.Spec PyProof.Rows L2
variable [Tn]
def SIt (h : Heap) (k : Bool) (it l : Addr) (i : Nat) : Prop := match k with
  | true => h.IsListIter it l i
  | false => h.IsTupleIter it l i
def SSrc (h : Heap) (k : Bool) (l : Addr) (items : Array Value) : Prop := match k with
  | true => h.IsList l items
  | false => h.IsTuple l items
def clsI : Bool → String
  | true => "list_iterator"
  | false => "tuple_iterator"
theorem SIt.at {h h' : Heap} {k : Bool} {it l : Addr} {i : Nat} (x : SIt h k it l i) (f : ∀ o, h.get? it = some o → h'.get? it = some o) : SIt h' k it l i := by
  cases k with
  | true => exact Heap.IsListIter.at (show h.IsListIter it l i from x) f
  | false => exact Heap.IsTupleIter.at (show h.IsTupleIter it l i from x) f
theorem SIt.ob {h : Heap} {k : Bool} {it l : Addr} {i : Nat} (x : SIt h k it l i) : ∃ o, h.get? it = some o ∧ ∀ v, o.data ≠ .cell v := by
  cases k with
  | true =>
    obtain ⟨o, e, _, d⟩ := (show h.IsListIter it l i from x)
    exact ⟨o, e, fun v q => by rw [d] at q; cases q⟩
  | false =>
    obtain ⟨o, e, _, d⟩ := (show h.IsTupleIter it l i from x)
    exact ⟨o, e, fun v q => by rw [d] at q; cases q⟩
theorem SIt.lt {h : Heap} {k : Bool} {it l : Addr} {i : Nat} (x : SIt h k it l i) : it < h.objs.size := let ⟨_, e, _⟩ := x.ob; Heap.lt_size e
theorem SSrc.at {h h' : Heap} {k : Bool} {l : Addr} {xs : Array Value} (x : SSrc h k l xs) (f : ∀ o, h.get? l = some o → h'.get? l = some o) : SSrc h' k l xs := by
  cases k with
  | true => exact Heap.IsList.at (show h.IsList l xs from x) f
  | false =>
    obtain ⟨o, e, r⟩ := (show h.IsTuple l xs from x)
    exact ⟨o, f o e, r⟩
theorem SSrc.lt {h : Heap} {k : Bool} {l : Addr} {xs : Array Value} (x : SSrc h k l xs) : l < h.objs.size := by
  cases k with
  | true =>
    obtain ⟨o, e, _⟩ := (show h.IsList l xs from x)
    exact Heap.lt_size e
  | false =>
    obtain ⟨o, e, _⟩ := (show h.IsTuple l xs from x)
    exact Heap.lt_size e
abbrev IsT (h : Heap) (T : Addr) (vs : Array Value) : Prop := h.get? T = some { cls := .type "tuple", data := .seq vs }
section
variable {prog : Program} {w : World} {A : Around} {E : Value → Shared → Prop} {s : Shared}
theorem nextS_item {k : Bool} {it l : Addr} {i : Nat} {items : Array Value} {x : Value} {Q : Value → Shared → Prop} (hit : SIt s.heap k it l i) (hl : SSrc s.heap k l items) (hx : items[i]? = some x)
    (hQ : ∀ h', SIt h' k it l (i + 1) → Heap.SameBut it s.heap h' → Q x { s with heap := h' }) : wpAny (model prog w) A (Builtin.SmallTypes.nextOf (.ref it)) Q E s := by
  cases k with
  | true => exact wpAny_nextOf_list_item hit hl hx hQ
  | false => exact RZ.nextOf_tuple_item hit hl hx hQ
theorem nextS_end {k : Bool} {it l : Addr} {i : Nat} {items : Array Value} {Q : Value → Shared → Prop} (hh : A.handled = none) (hit : SIt s.heap k it l i) (hl : SSrc s.heap k l items) (hx : items[i]? = none)
    (hE : ∀ h' e, Heap.ExtBut it s.heap h' → (∃ o, h'.get? e = some o ∧ o.cls = .type "StopIteration") → E (.ref e) { s with heap := h' }) : wpAny (model prog w) A (Builtin.SmallTypes.nextOf (.ref it)) Q E s := by
  cases k with
  | true => exact wpAny_nextOf_list_end hh hit hl hx hE
  | false => exact RZ.nextOf_tuple_end hh hit hl hx hE
theorem updT {T : Addr} {vs : Array Value} {x : Value} {k : Nat} {Q : Unit → Shared → Prop} (hT : IsT s.heap T vs) (hs : vs.size ≤ 3) (h : ∀ h', IsT h' T (vs.setIfInBounds k x) → Heap.SameBut T s.heap h' → Q () { s with heap := h' }) :
    wpAny (model prog w) A (updateSeq T (·.setIfInBounds k x)) Q E s := by
  have hl : vs.size ≤ sizeLine := Nat.le_trans hs (by rw [sizeLine_eq]; decide)
  refine wpAny_updateSeq hT rfl (hz := hl) (_hz' := by simpa using Nat.le_succ_of_le hl) (h _ ?_ (Heap.SameBut.update ..))
  show Heap.get? _ _ = _
  rw [Heap.get?_update_self _ hT rfl]
  simp [Obj.mapSeq]
theorem iterS {k : Bool} {l : Addr} {items : Array Value} {Q : Value → Shared → Prop} (hl : SSrc s.heap k l items) (h : Q (.ref s.heap.objs.size) { s with heap := s.heap.push { cls := .type (clsI k), data := .fields #[.ref l, .int 0 0] } }) :
    wpAny (model prog w) A (pyIter (.ref l)) Q E s := by
  cases k with
  | true => exact wpAny_pyIter_list hl h
  | false => exact wpAny_pyIter_tuple hl h
end
structure ZA2 (z TI TO i1 i2 l1 l2 : Addr) : Prop where
  TIz : TI ≠ z
  TOz : TO ≠ z
  TITO : TI ≠ TO
  i1z : i1 ≠ z
  TIi1 : TI ≠ i1
  TOi1 : TO ≠ i1
  l1z : l1 ≠ z
  l1TO : l1 ≠ TO
  l1i1 : l1 ≠ i1
  l1i2 : l1 ≠ i2
  i1i2 : i1 ≠ i2
  i2z : i2 ≠ z
  TIi2 : TI ≠ i2
  TOi2 : TO ≠ i2
  l2z : l2 ≠ z
  l2TO : l2 ≠ TO
  l2i1 : l2 ≠ i1
  l2i2 : l2 ≠ i2
section
variable {prog : Program} {w : World} {A : Around} {E : Value → Shared → Prop} {s : Shared}
theorem zip2_item {z TI TO i1 i2 l1 l2 : Addr} {k1 k2 : Bool} {p : Nat} {xs1 xs2 : Array Value} {x1 x2 o1 o2 : Value} {Q : Value → Shared → Prop} (D : ZA2 z TI TO i1 i2 l1 l2) (hz : IsZip s.heap z TI TO .none) (hTI : IsT s.heap TI #[.ref i1, .ref i2]) (hTO : IsT s.heap TO #[o1, o2]) (h1 : SIt s.heap k1 i1 l1 p) (hl1 : SSrc s.heap k1 l1 xs1) (h2 : SIt s.heap k2 i2 l2 p) (hl2 : SSrc s.heap k2 l2 xs2) (hx1 : xs1[p]? = some x1) (hx2 : xs2[p]? = some x2)
    (hQ : ∀ h', IsZip h' z TI TO (rawInt s.heap.objs.size) → IsT h' TO #[x1, x2] → SIt h' k1 i1 l1 (p + 1) → SIt h' k2 i2 l2 (p + 1) → IsT h' s.heap.objs.size #[x1, x2] → h'.objs.size = s.heap.objs.size + 1 → (∀ c o, c ≠ z → c ≠ TO → c ≠ i1 → c ≠ i2 → s.heap.get? c = some o → h'.get? c = some o) → Q (.ref s.heap.objs.size) { s with heap := h' }) :
    wpAny (model prog w) A (Builtin.«zip.__next__» ⟨[.ref z], []⟩) (fun fin s' => ∃ v, fin = .done (.ret v) ∧ Q v s') E s := by
  show wpAny _ _ (field (.ref z) 2 >>= _) _ _ _
  refine wpAny_bind (wpAny_field hz rfl (x := .bool false) rfl ?_)
  show wpAny _ _ (field (.ref z) 3 >>= _) _ _ _
  refine wpAny_bind (wpAny_field hz rfl (x := .ref TI) rfl ?_)
  refine wpAny_bind (wpAny_seqItems hTI rfl ?_)
  show wpAny _ _ (Builtin.SmallTypes.ownedTupleIsFree (.ref z) >>= _) _ _ _
  refine wpAny_bind ?_
  unfold Builtin.SmallTypes.ownedTupleIsFree
  refine wpAny_bind (wpAny_field hz rfl (x := .none) rfl (wpAny_pure ?_))
  simp only [if_true]
  refine wpAny_bind (wpAny_rule ?_)
  refine wpAny_bind (wpAny_field hz rfl (x := .ref TO) rfl ?_)
  refine wpAny_bind (wpAny_setField_rec hz (by simp) fun g0 zz0 s0 => ?_)
  replace zz0 : IsZip g0 z TI TO .ellipsis := zz0
  have K0 : ∀ c o, c ≠ z → s.heap.get? c = some o → g0.get? c = some o := fun c o c1 e => s0.extBut _ _ c1 e
  have T0 : IsT g0 TO #[o1, o2] := K0 _ _ D.TOz hTO
  have Z0 : g0.objs.size = s.heap.objs.size := s0.1
  refine wpAny_bind ?_
  simp only [List.zipIdx_cons, List.zipIdx_nil, List.forIn_cons, List.forIn_nil]
  refine wpAny_bind (wpAny_bind (wpAny_onRaise ?_))
  show wpAny _ _ (Builtin.SmallTypes.nextOf (.ref i1) >>= _) _ _ _
  have I1 : SIt g0 k1 i1 l1 p := h1.at fun o e => K0 _ o (D.i1z) e
  have L1 : SSrc g0 k1 l1 xs1 := hl1.at fun o e => K0 _ o (D.l1z) e
  refine wpAny_bind (nextS_item I1 L1 hx1 fun a1 n1 sa1 => wpAny_pure ?_)
  have Ta1 : IsT a1 TO #[o1, o2] := sa1.extBut _ _ (D.TOi1) T0
  refine wpAny_bind (wpAny_seqItems Ta1 rfl ?_)
  refine wpAny_bind (updT Ta1 (by simp) fun g1 T1 st1 => ?_)
  replace T1 : IsT g1 TO #[x1, o2] := T1
  have K1 : ∀ c o, c ≠ z → c ≠ TO → c ≠ i1 → s.heap.get? c = some o → g1.get? c = some o := fun c o c0 c1 c2 e => st1.extBut _ _ c1 (sa1.extBut _ _ c2 (K0 c o c0 e))
  have zz1 : IsZip g1 z TI TO .ellipsis := st1.extBut _ _ (D.TOz.symm) (sa1.extBut _ _ (D.i1z.symm) zz0)
  have Z1 : g1.objs.size = s.heap.objs.size := by rw [st1.1, sa1.1, Z0]
  have N1_1 : SIt g1 k1 i1 l1 (p + 1) := n1.at fun o e => st1.extBut _ _ (D.TOi1.symm) e
  refine wpAny_bind (wpAny_letGo (wpAny_pure ?_))
  refine wpAny_bind (wpAny_bind (wpAny_onRaise ?_))
  show wpAny _ _ (Builtin.SmallTypes.nextOf (.ref i2) >>= _) _ _ _
  have I2 : SIt g1 k2 i2 l2 p := h2.at fun o e => K1 _ o (D.i2z) (D.TOi2.symm) (D.i1i2.symm) e
  have L2 : SSrc g1 k2 l2 xs2 := hl2.at fun o e => K1 _ o (D.l2z) (D.l2TO) (D.l2i1) e
  refine wpAny_bind (nextS_item I2 L2 hx2 fun a2 n2 sa2 => wpAny_pure ?_)
  have Ta2 : IsT a2 TO #[x1, o2] := sa2.extBut _ _ (D.TOi2) T1
  refine wpAny_bind (wpAny_seqItems Ta2 rfl ?_)
  refine wpAny_bind (updT Ta2 (by simp) fun g2 T2 st2 => ?_)
  replace T2 : IsT g2 TO #[x1, x2] := T2
  have K2 : ∀ c o, c ≠ z → c ≠ TO → c ≠ i1 → c ≠ i2 → s.heap.get? c = some o → g2.get? c = some o := fun c o c0 c1 c2 c3 e => st2.extBut _ _ c1 (sa2.extBut _ _ c3 (K1 c o c0 c1 c2 e))
  have zz2 : IsZip g2 z TI TO .ellipsis := st2.extBut _ _ (D.TOz.symm) (sa2.extBut _ _ (D.i2z.symm) zz1)
  have Z2 : g2.objs.size = s.heap.objs.size := by rw [st2.1, sa2.1, Z1]
  have N2_2 : SIt g2 k2 i2 l2 (p + 1) := n2.at fun o e => st2.extBut _ _ (D.TOi2.symm) e
  have N1_2 : SIt g2 k1 i1 l1 (p + 1) := N1_1.at fun o e => st2.extBut _ _ (D.TOi1.symm) (sa2.extBut _ _ (D.i1i2) e)
  refine wpAny_bind (wpAny_letGo (wpAny_pure (wpAny_pure ?_)))
  refine wpAny_bind (wpAny_seqItems T2 rfl ?_)
  refine wpAny_bind (wpAny_newTuple ?_)
  show wpAny _ _ (Builtin.SmallTypes.ownedTupleHandOut (.ref z) (.ref g2.objs.size) >>= _) _ _ _
  refine wpAny_bind ?_
  unfold Builtin.SmallTypes.ownedTupleHandOut
  have hzl : z < g2.objs.size := Heap.lt_size zz2
  have zp : IsZip (g2.push { cls := .type "tuple", data := .seq #[x1, x2] }) z TI TO .ellipsis := Heap.get?_push_of_some _ zz2
  refine wpAny_bind (wpAny_setField_rec zp (by simp) fun e7 z7 s7 => ?_)
  replace z7 : IsZip e7 z TI TO (rawInt g2.objs.size) := z7
  refine wpAny_setField_rec z7 (by simp) fun e8 z8 s8 => ?_
  replace z8 : IsZip e8 z TI TO (rawInt g2.objs.size) := z8
  have up : ∀ c o, c ≠ z → g2.get? c = some o → e8.get? c = some o := fun c o c1 e => s8.extBut _ _ c1 (s7.extBut _ _ c1 (Heap.get?_push_of_some _ e))
  have t8 : IsT e8 g2.objs.size #[x1, x2] := s8.extBut _ _ (Nat.ne_of_gt hzl) (s7.extBut _ _ (Nat.ne_of_gt hzl) (Heap.get?_push_size _ rfl))
  have y8 : e8.objs.size = g2.objs.size + 1 := by rw [s8.1, s7.1, Heap.size_push]
  rw [Z2] at z8 t8 y8
  refine wpAny_pure ⟨_, rfl, ?_⟩
  show Q (.ref g2.objs.size) _
  rw [Z2]
  exact hQ e8 z8 (up _ _ D.TOz T2) (N1_2.at fun o e => up _ o D.i1z e) (N2_2.at fun o e => up _ o D.i2z e) t8 y8 fun c o c0 c1 c2 c3 e => up c o c0 (K2 c o c0 c1 c2 c3 e)
theorem zip2_end {z TI TO i1 i2 l1 l2 : Addr} {k1 k2 : Bool} {p : Nat} {xs1 xs2 : Array Value} {o1 o2 : Value} {Q : Fin → Shared → Prop} (hh : A.handled = none) (D : ZA2 z TI TO i1 i2 l1 l2) (hz : IsZip s.heap z TI TO .none) (hTI : IsT s.heap TI #[.ref i1, .ref i2]) (hTO : IsT s.heap TO #[o1, o2]) (h1 : SIt s.heap k1 i1 l1 p) (hl1 : SSrc s.heap k1 l1 xs1) (h2 : SIt s.heap k2 i2 l2 p) (hl2 : SSrc s.heap k2 l2 xs2) (hend : xs1[p]? = none ∨ xs2[p]? = none)
    (hE : ∀ h' e, (∀ c o, c ≠ z → c ≠ TO → c ≠ i1 → c ≠ i2 → s.heap.get? c = some o → h'.get? c = some o) → (∃ o, h'.get? e = some o ∧ o.cls = .type "StopIteration") → E (.ref e) { s with heap := h' }) :
    wpAny (model prog w) A (Builtin.«zip.__next__» ⟨[.ref z], []⟩) Q E s := by
  show wpAny _ _ (field (.ref z) 2 >>= _) _ _ _
  refine wpAny_bind (wpAny_field hz rfl (x := .bool false) rfl ?_)
  show wpAny _ _ (field (.ref z) 3 >>= _) _ _ _
  refine wpAny_bind (wpAny_field hz rfl (x := .ref TI) rfl ?_)
  refine wpAny_bind (wpAny_seqItems hTI rfl ?_)
  show wpAny _ _ (Builtin.SmallTypes.ownedTupleIsFree (.ref z) >>= _) _ _ _
  refine wpAny_bind ?_
  unfold Builtin.SmallTypes.ownedTupleIsFree
  refine wpAny_bind (wpAny_field hz rfl (x := .none) rfl (wpAny_pure ?_))
  simp only [if_true]
  refine wpAny_bind (wpAny_rule ?_)
  refine wpAny_bind (wpAny_field hz rfl (x := .ref TO) rfl ?_)
  refine wpAny_bind (wpAny_setField_rec hz (by simp) fun g0 zz0 s0 => ?_)
  replace zz0 : IsZip g0 z TI TO .ellipsis := zz0
  have K0 : ∀ c o, c ≠ z → s.heap.get? c = some o → g0.get? c = some o := fun c o c1 e => s0.extBut _ _ c1 e
  have T0 : IsT g0 TO #[o1, o2] := K0 _ _ D.TOz hTO
  have Z0 : g0.objs.size = s.heap.objs.size := s0.1
  refine wpAny_bind ?_
  simp only [List.zipIdx_cons, List.zipIdx_nil, List.forIn_cons, List.forIn_nil]
  refine wpAny_bind (wpAny_bind (wpAny_onRaise ?_))
  show wpAny _ _ (Builtin.SmallTypes.nextOf (.ref i1) >>= _) _ _ _
  have I1 : SIt g0 k1 i1 l1 p := h1.at fun o e => K0 _ o (D.i1z) e
  have L1 : SSrc g0 k1 l1 xs1 := hl1.at fun o e => K0 _ o (D.l1z) e
  cases hx1 : xs1[p]? with
  | none =>
    refine wpAny_bind (nextS_end hh I1 L1 hx1 fun ae e xe he => ?_)
    obtain ⟨oe, hoe, hce⟩ := he
    have ze : IsZip ae z TI TO .ellipsis := xe _ _ (D.i1z.symm) zz0
    have hez : e ≠ z := fun q => by subst q; rw [ze] at hoe; cases hoe; simp at hce
    refine wpAny_setField_rec ze (by simp) fun be _ sb => hE be e (fun c o c0 c1 c2 c3 q => sb.extBut _ _ c0 (xe _ _ c2 (K0 c o c0 q))) ⟨oe, sb.extBut _ _ hez hoe, hce⟩
  | some x1 =>
    refine wpAny_bind (nextS_item I1 L1 hx1 fun a1 n1 sa1 => wpAny_pure ?_)
    have Ta1 : IsT a1 TO #[o1, o2] := sa1.extBut _ _ (D.TOi1) T0
    refine wpAny_bind (wpAny_seqItems Ta1 rfl ?_)
    refine wpAny_bind (updT Ta1 (by simp) fun g1 T1 st1 => ?_)
    replace T1 : IsT g1 TO #[x1, o2] := T1
    have K1 : ∀ c o, c ≠ z → c ≠ TO → c ≠ i1 → s.heap.get? c = some o → g1.get? c = some o := fun c o c0 c1 c2 e => st1.extBut _ _ c1 (sa1.extBut _ _ c2 (K0 c o c0 e))
    have zz1 : IsZip g1 z TI TO .ellipsis := st1.extBut _ _ (D.TOz.symm) (sa1.extBut _ _ (D.i1z.symm) zz0)
    have Z1 : g1.objs.size = s.heap.objs.size := by rw [st1.1, sa1.1, Z0]
    have N1_1 : SIt g1 k1 i1 l1 (p + 1) := n1.at fun o e => st1.extBut _ _ (D.TOi1.symm) e
    refine wpAny_bind (wpAny_letGo (wpAny_pure ?_))
    refine wpAny_bind (wpAny_bind (wpAny_onRaise ?_))
    show wpAny _ _ (Builtin.SmallTypes.nextOf (.ref i2) >>= _) _ _ _
    have I2 : SIt g1 k2 i2 l2 p := h2.at fun o e => K1 _ o (D.i2z) (D.TOi2.symm) (D.i1i2.symm) e
    have L2 : SSrc g1 k2 l2 xs2 := hl2.at fun o e => K1 _ o (D.l2z) (D.l2TO) (D.l2i1) e
    cases hx2 : xs2[p]? with
    | none =>
      refine wpAny_bind (nextS_end hh I2 L2 hx2 fun ae e xe he => ?_)
      obtain ⟨oe, hoe, hce⟩ := he
      have ze : IsZip ae z TI TO .ellipsis := xe _ _ (D.i2z.symm) zz1
      have hez : e ≠ z := fun q => by subst q; rw [ze] at hoe; cases hoe; simp at hce
      refine wpAny_setField_rec ze (by simp) fun be _ sb => hE be e (fun c o c0 c1 c2 c3 q => sb.extBut _ _ c0 (xe _ _ c3 (K1 c o c0 c1 c2 q))) ⟨oe, sb.extBut _ _ hez hoe, hce⟩
    | some x2 =>
      rcases hend with q | q
      · rw [hx1] at q; cases q
      · rw [hx2] at q; cases q
theorem pyNext_zip2 {z TI TO i1 i2 l1 l2 : Addr} {k1 k2 : Bool} {p : Nat} {xs1 xs2 : Array Value} {x1 x2 o1 o2 : Value} {Q : Option Value → Shared → Prop} (D : ZA2 z TI TO i1 i2 l1 l2) (hz : IsZip s.heap z TI TO .none) (hTI : IsT s.heap TI #[.ref i1, .ref i2]) (hTO : IsT s.heap TO #[o1, o2]) (h1 : SIt s.heap k1 i1 l1 p) (hl1 : SSrc s.heap k1 l1 xs1) (h2 : SIt s.heap k2 i2 l2 p) (hl2 : SSrc s.heap k2 l2 xs2) (hx1 : xs1[p]? = some x1) (hx2 : xs2[p]? = some x2)
    (hQ : ∀ h', IsZip h' z TI TO (rawInt s.heap.objs.size) → IsT h' TO #[x1, x2] → SIt h' k1 i1 l1 (p + 1) → SIt h' k2 i2 l2 (p + 1) → IsT h' s.heap.objs.size #[x1, x2] → h'.objs.size = s.heap.objs.size + 1 → (∀ c o, c ≠ z → c ≠ TO → c ≠ i1 → c ≠ i2 → s.heap.get? c = some o → h'.get? c = some o) → Q (some (.ref s.heap.objs.size)) { s with heap := h' }) :
    wpAny (model prog w) A (pyNext (.ref z)) Q E s := by
  have hT : s.TypeIs (.ref z) "zip" := ⟨_, hz, rfl⟩
  unfold pyNext
  exact wpAny_bind (wpAny_attempt (wpAny_callSpecial?_slot (name := Str.ofString "__next__") hT F.slot_zip_next (wpAny_call_entry F.slot_zip_next hT F.entry_zip_next (zip2_item D hz hTI hTO h1 hl1 h2 hl2 hx1 hx2 fun h' a0 a1 a2 a3 a4 a5 a6 => wpAny_pure (hQ h' a0 a1 a2 a3 a4 a5 a6)) (F.args_zip_next_1 _))))
theorem pyNext_zip2_end {z TI TO i1 i2 l1 l2 : Addr} {k1 k2 : Bool} {p : Nat} {xs1 xs2 : Array Value} {o1 o2 : Value} {Q : Option Value → Shared → Prop} (hh : A.handled = none) (D : ZA2 z TI TO i1 i2 l1 l2) (hz : IsZip s.heap z TI TO .none) (hTI : IsT s.heap TI #[.ref i1, .ref i2]) (hTO : IsT s.heap TO #[o1, o2]) (h1 : SIt s.heap k1 i1 l1 p) (hl1 : SSrc s.heap k1 l1 xs1) (h2 : SIt s.heap k2 i2 l2 p) (hl2 : SSrc s.heap k2 l2 xs2) (hend : xs1[p]? = none ∨ xs2[p]? = none)
    (hQ : ∀ h', (∀ c o, c ≠ z → c ≠ TO → c ≠ i1 → c ≠ i2 → s.heap.get? c = some o → h'.get? c = some o) → Q none { s with heap := h' }) : wpAny (model prog w) A (pyNext (.ref z)) Q E s := by
  have hT : s.TypeIs (.ref z) "zip" := ⟨_, hz, rfl⟩
  unfold pyNext
  refine wpAny_bind (wpAny_attempt (wpAny_callSpecial?_slot (name := Str.ofString "__next__") hT F.slot_zip_next (wpAny_call_entry F.slot_zip_next hT F.entry_zip_next (zip2_end hh D hz hTI hTO h1 hl1 h2 hl2 hend fun h' e hk he => ?_) (F.args_zip_next_1 _))))
  obtain ⟨o, ho, hc⟩ := he
  refine wpAny_bind (wpAny_isInstance (T := "StopIteration") (b := true) ⟨o, ho, hc⟩ isSubtype_stop ?_)
  exact wpAny_pure (hQ _ hk)
end
abbrev zH2_1 (h : Heap) (k1 : Bool) (l1 : Addr) : Heap := h.push { cls := .type (clsI k1), data := .fields #[.ref l1, .int 0 0] }
abbrev zH2_2 (h : Heap) (k1 k2 : Bool) (l1 l2 : Addr) : Heap := (zH2_1 h k1 l1).push { cls := .type (clsI k2), data := .fields #[.ref l2, .int 0 0] }
abbrev zH2_T (h : Heap) (k1 k2 : Bool) (l1 l2 : Addr) : Heap := (zH2_2 h k1 k2 l1 l2).push { cls := .type "tuple", data := .seq #[.ref h.objs.size, .ref (zH2_1 h k1 l1).objs.size] }
abbrev zH2_O (h : Heap) (k1 k2 : Bool) (l1 l2 : Addr) : Heap := (zH2_T h k1 k2 l1 l2).push { cls := .type "tuple", data := .seq #[.none, .none] }
abbrev zH2_Z (h : Heap) (k1 k2 : Bool) (l1 l2 : Addr) : Heap := (zH2_O h k1 k2 l1 l2).push { cls := .type "zip", data := .fields #[.none, .bool false, .bool false, .ref (zH2_2 h k1 k2 l1 l2).objs.size, .ref (zH2_T h k1 k2 l1 l2).objs.size] }
theorem meets_zip2 (k1 k2 : Bool) (l1 l2 : Addr) (xs1 xs2 : Array Value) :
    Meets (Builtin.«zip.__new__» ⟨[.type "zip", .ref l1, .ref l2], []⟩) (fun _ R s => (SSrc s.heap k1 l1 xs1 ∧ SSrc s.heap k2 l2 xs2) ∧ R (.ok (.ret (.ref (zH2_O s.heap k1 k2 l1 l2).objs.size))) { s with heap := zH2_Z s.heap k1 k2 l1 l2 }) :=
  .of_wp fun prog w A R s h => by
    obtain ⟨hp, g, d, tk, os⟩ := s; obtain ⟨⟨hl1, hl2⟩, h⟩ := h
    have hsub := sub_zip
    have M1 : SSrc (Shared.heap ⟨hp, g, d, tk, os⟩) k1 l1 xs1 := hl1
    have M2 : SSrc (Shared.heap ⟨(hp.push { cls := .type (clsI k1), data := .fields #[.ref l1, .int 0 0] }), g, d, tk, os⟩) k2 l2 xs2 := hl2.at fun o e => Heap.get?_push_of_some _ (e)
    wp_walk using iterS M1, iterS M2
    exact ⟨_, rfl, h⟩
theorem tc_zip2 (a1 a2 : Value) : checkTypeCall "zip" ⟨[a1, a2], []⟩ = pure () := by kernel_rfl
theorem nc_zip2 (a1 a2 : Value) : checkBuiltinCall "zip.__new__" ⟨[.type "zip", a1, a2], []⟩ = pure () := by kernel_rfl
theorem ai_zip2 (b a1 a2 : Value) : argsOk "object.__init__" ⟨[b, a1, a2], []⟩ := by
  unfold argsOk; rw [signature?_of (id := "object.__init__") (n := ['_', '_', 't', 'i', 'n', 'i', '_', '_']) (o := ['t', 'c', 'e', 'j', 'b', 'o']) (by kernel_rfl) F.owner_object]; kernel_rfl
section
variable {prog : Program} {w : World} {A : Around} {E : Value → Shared → Prop} {s : Shared}
theorem call_zip2 {k1 k2 : Bool} {l1 l2 : Addr} {xs1 xs2 : Array Value} {Q : Value → Shared → Prop} (hl1 : SSrc s.heap k1 l1 xs1) (hl2 : SSrc s.heap k2 l2 xs2)
    (h : ∀ h', IsZip h' (s.heap.objs.size + 4) (s.heap.objs.size + 2) (s.heap.objs.size + 3) .none → IsT h' (s.heap.objs.size + 2) #[.ref s.heap.objs.size, .ref (s.heap.objs.size + 1)] → IsT h' (s.heap.objs.size + 3) #[.none, .none] → SIt h' k1 s.heap.objs.size l1 0 → SIt h' k2 (s.heap.objs.size + 1) l2 0 → (∀ c o, s.heap.get? c = some o → h'.get? c = some o) → Q (.ref (s.heap.objs.size + 4)) { s with heap := h' }) :
    wpAny (model prog w) A (call (.type "zip") [.ref l1, .ref l2]) Q E s := by
  refine callType_new F.called_zip (by decide) (tc_zip2 _ _ ) (nc_zip2 _ _ ) (fun obj => ai_zip2 obj _ _ ) F.entry_zip_new (meets_zip2 k1 k2 l1 l2 xs1 xs2) ⟨⟨hl1, hl2⟩, ?_⟩
  have y1 : (zH2_1 s.heap k1 l1).objs.size = s.heap.objs.size + 1 := Heap.size_push ..
  have y2 : (zH2_2 s.heap k1 k2 l1 l2).objs.size = s.heap.objs.size + 2 := by rw [Heap.size_push, y1]
  have y3 : (zH2_T s.heap k1 k2 l1 l2).objs.size = s.heap.objs.size + 3 := by rw [Heap.size_push, y2]
  have y4 : (zH2_O s.heap k1 k2 l1 l2).objs.size = s.heap.objs.size + 4 := by rw [Heap.size_push, y3]
  have q0 : (zH2_Z s.heap k1 k2 l1 l2).get? s.heap.objs.size = some _ := Heap.get?_push_of_some _ (Heap.get?_push_of_some _ (Heap.get?_push_of_some _ (Heap.get?_push_of_some _ (Heap.get?_push_size _ rfl))))
  have q1 : (zH2_Z s.heap k1 k2 l1 l2).get? (zH2_1 s.heap k1 l1).objs.size = some _ := Heap.get?_push_of_some _ (Heap.get?_push_of_some _ (Heap.get?_push_of_some _ (Heap.get?_push_size _ rfl)))
  have q2 : (zH2_Z s.heap k1 k2 l1 l2).get? (zH2_2 s.heap k1 k2 l1 l2).objs.size = some _ := Heap.get?_push_of_some _ (Heap.get?_push_of_some _ (Heap.get?_push_size _ rfl))
  have q3 : (zH2_Z s.heap k1 k2 l1 l2).get? (zH2_T s.heap k1 k2 l1 l2).objs.size = some _ := Heap.get?_push_of_some _ (Heap.get?_push_size _ rfl)
  have q4 : (zH2_Z s.heap k1 k2 l1 l2).get? (zH2_O s.heap k1 k2 l1 l2).objs.size = some _ := Heap.get?_push_size _ rfl
  show _ ∧ _
  rw [y1] at q1
  rw [y1, y2] at q2
  rw [y3] at q3
  rw [y2, y3, y4] at q4
  rw [y4]
  exact ⟨⟨_, q4, rfl⟩, h _ q4 q2 q3 (show SIt _ k1 _ l1 0 by cases k1 <;> exact ⟨_, q0, rfl, rfl⟩) (show SIt _ k2 _ l2 0 by cases k2 <;> exact ⟨_, q1, rfl, rfl⟩) fun c o x => Heap.get?_push_of_some _ (Heap.get?_push_of_some _ (Heap.get?_push_of_some _ (Heap.get?_push_of_some _ (Heap.get?_push_of_some _ (x)))))⟩
theorem za2 {I l1 l2 : Nat} (e1 : l1 < I) (e2 : l2 < I) : ZA2 (I + 4) (I + 2) (I + 3) I (I + 1) l1 l2 := by
  constructor <;> (refine Nat.ne_iff_lt_or_gt.mpr ?_; omega)
end
/-- what stands at a: a list or a tuple -/
def SqS (K : PySem.W.Frag) (H : Hp) (k : Bool) (a : Addr) (xs : List V) : Prop := match k with
  | true => SqL K H a xs
  | false => SqT K H a xs
theorem SqS.keep {K : PySem.W.Frag} {H H' : Hp} {k : Bool} {a : Addr} {xs : List V} (e : Same H H') (h : SqS K H k a xs) : SqS K H' k a xs := by
  cases k with
  | true => exact e.seq (show SqL K H a xs from h)
  | false => exact Same.sqT e (show SqT K H a xs from h)
section
variable {X : Cx} {pins : List (Addr × Obj)} {σ : L2.St} {H : Hp} {s : Shared}
theorem Inv.srcS (I : L2.Inv X pins σ H s) {k : Bool} {a : Addr} {xs : List V} (h : SqS X.K H k a xs) : ∃ its : List Value, Vals xs its ∧ SSrc s.heap k a its.toArray := by
  cases k with
  | true =>
    obtain ⟨its, rv, p, _⟩ := I.list (show SqL X.K H a xs from h)
    exact ⟨its, rv, p.isList⟩
  | false =>
    obtain ⟨its, rv, p, _⟩ := I.tuple (show SqT X.K H a xs from h)
    exact ⟨its, rv, p⟩
end
/-- the items of things that stand, turn by turn, in new tuples -/
def ItZ2 (K : PySem.W.Frag) (k1 k2 : Bool) (l1 l2 : Addr) (ys1 ys2 : List V) : It :=
  ⟨fun i H => (SqS K H k1 l1 ys1 ∧ SqS K H k2 l2 ys2) ∧ i < ys1.length ∧ i < ys2.length, fun i H v H' => ∃ (T : Addr) (x1 x2 : V), v = .ref T ∧ H T = none ∧ H' = upd H T (.tup [x1, x2]) ∧ ys1[i]? = some x1 ∧ ys2[i]? = some x2, fun i H => (SqS K H k1 l1 ys1 ∧ SqS K H k2 l2 ys2) ∧ (ys1.length ≤ i ∨ ys2.length ≤ i)⟩
theorem turn_z2 {P : Program} {w : World} {K : PySem.W.Frag} {elts : List Expr} {kk : Nat} {tpos : Pos} {z TI TO i1 i2 l1 l2 : Addr} {k1 k2 : Bool} {ys1 ys2 : List V} (D : ZA2 z TI TO i1 i2 l1 l2) :
    Turn P w K (.Tuple elts kk tpos) (ItZ2 K k1 k2 l1 l2 ys1 ys2) [z, TI, TO, i1, i2] z (fun i h => IsZip h z TI TO .none ∧ IsT h TI #[.ref i1, .ref i2] ∧ (∃ o1 o2 : Value, IsT h TO #[o1, o2]) ∧ SIt h k1 i1 l1 i ∧ SIt h k2 i2 l2 i) where
  mem := by simp
  obj := fun i h ⟨hz, hTI, ⟨o1, o2, hTO⟩, h1, h2⟩ c hc => by
    have e' : c = z ∨ c = TI ∨ c = TO ∨ c = i1 ∨ c = i2 := by simpa using hc
    rcases e' with q | q | q | q | q
    · rw [q]; exact ⟨_, hz, fun v q => nomatch q⟩
    · rw [q]; exact ⟨_, hTI, fun v q => nomatch q⟩
    · rw [q]; exact ⟨_, hTO, fun v q => nomatch q⟩
    · rw [q]; exact h1.ob
    · rw [q]; exact h2.ob
  keep := fun i h h' ⟨hz, hTI, ⟨o1, o2, hTO⟩, h1, h2⟩ k => ⟨k z (by simp) _ hz, k TI (by simp) _ hTI, ⟨o1, o2, k TO (by simp) _ hTO⟩, h1.at fun o q => k i1 (by simp) o q, h2.at fun o q => k i2 (by simp) o q⟩
  item := by
    intro X hP hw hK hc i pins s σ H E I hf st hg
    subst hP hw hK
    obtain ⟨hz, hTI, ⟨o1, o2, hTO⟩, h1, h2⟩ := st
    obtain ⟨⟨q1, q2⟩, b1, b2⟩ := hg
    obtain ⟨its1, rv1, p1⟩ := Inv.srcS I q1
    have hx1 : ys1[i]? = some (ys1[i]'b1) := List.getElem?_eq_getElem b1
    generalize ys1[i]'b1 = x1 at hx1
    obtain ⟨u1, hu1, ru1⟩ := rv1.get hx1
    obtain ⟨its2, rv2, p2⟩ := Inv.srcS I q2
    have hx2 : ys2[i]? = some (ys2[i]'b2) := List.getElem?_eq_getElem b2
    generalize ys2[i]'b2 = x2 at hx2
    obtain ⟨u2, hu2, ru2⟩ := rv2.get hx2
    have hzl : z < s.heap.objs.size := Heap.lt_size hz
    refine pyNext_zip2 D hz hTI hTO h1 p1 h2 p2 (by simpa using hu1) (by simpa using hu2) fun h' z' TO' n1 n2 hT hsz hk => ?_
    refine ⟨_, rfl, wpAny_letOwnedTupleGo_zip (s := { s with heap := h' }) z' fun hq z2 sb => ?_⟩
    have hT2 : IsT hq s.heap.objs.size #[u1, u2] := (sb.2 _ (Nat.ne_of_gt hzl)).trans hT
    have new : ObjOk X.prog X.w (upd H s.heap.objs.size (.tup [x1, x2])) hq s.heap.objs.size (.tup [x1, x2]) :=
      ⟨by show 2 ≤ sizeLine; decide, [u1, u2], .cons ru1 (.cons ru2 (.nil)), ⟨_, hT2, rfl, _, rfl⟩⟩
    have I1 : L2.Inv X pins σ (upd H s.heap.objs.size (.tup [x1, x2])) { s with heap := hq } :=
      I.turnedNew (t' := s.toks) (ch := [z, TI, TO, i1, i2]) (fun c o hb q => (sb.2 c (fun q' => hb (by simp [q']))).trans (hk c o (fun q' => hb (by simp [q'])) (fun q' => hb (by simp [q'])) (fun q' => hb (by simp [q'])) (fun q' => hb (by simp [q'])) q)) hf (Nat.le_refl _) new
    refine ⟨.ref s.heap.objs.size, _, I1, rfl, ⟨_, x1, x2, rfl, I.hok.fresh (Nat.le_refl _), rfl, hx1, hx2⟩, ⟨z2, ?_, ⟨u1, u2, ?_⟩, ?_, ?_⟩, fun c hcm => ?_⟩
    · exact (sb.2 _ D.TIz).trans (hk _ _ D.TIz D.TITO D.TIi1 D.TIi2 hTI)
    · exact (sb.2 _ D.TOz).trans TO'
    · exact n1.at fun o q => (sb.2 _ D.i1z).trans q
    · exact n2.at fun o q => (sb.2 _ D.i2z).trans q
    · have hlt : c < s.heap.objs.size := by
        have e' : c = z ∨ c = TI ∨ c = TO ∨ c = i1 ∨ c = i2 := by simpa using hcm
        rcases e' with q | q | q | q | q
        · rw [q]; exact hzl
        · rw [q]; exact Heap.lt_size hTI
        · rw [q]; exact Heap.lt_size hTO
        · rw [q]; exact h1.lt
        · rw [q]; exact h2.lt
      rw [upd_ne (Nat.ne_of_lt hlt)]
      exact (hf c hcm).1
  done := by
    intro X hP hw hK hc i pins s σ H E I hf st hg
    subst hP hw hK
    obtain ⟨hz, hTI, ⟨o1, o2, hTO⟩, h1, h2⟩ := st
    obtain ⟨⟨q1, q2⟩, hend⟩ := hg
    obtain ⟨its1, rv1, p1⟩ := Inv.srcS I q1
    have e1 := rv1.length
    obtain ⟨its2, rv2, p2⟩ := Inv.srcS I q2
    have e2 := rv2.length
    have he : its1.toArray[i]? = none ∨ its2.toArray[i]? = none := by
      rcases hend with q | q
      · exact .inl (by simp; omega)
      · exact .inr (by simp; omega)
    exact pyNext_zip2_end (I.ok.hd hc) D hz hTI hTO h1 p1 h2 p2 he fun h' hk => ⟨rfl, I.turnedL (t' := s.toks) (ch := [z, TI, TO, i1, i2]) (fun c o hb q => hk c o (fun q' => hb (by simp [q'])) (fun q' => hb (by simp [q'])) (fun q' => hb (by simp [q'])) (fun q' => hb (by simp [q'])) q) hf⟩
  self := fun A i s Q E st h => wpAny_pyIter_zip st.1 h
def iZ2 (K : PySem.W.Frag) (ta : TA) : TI := fun σ H R => ta σ H fun vs H1 => ∃ (k1 k2 : Bool) (l1 l2 : Addr) (ys1 ys2 : List V), vs = [.ref l1, .ref l2] ∧ (SqS K H1 k1 l1 ys1 ∧ SqS K H1 k2 l2 ys2) ∧ R (ItZ2 K k1 k2 l1 l2 ys1 ys2) H1
theorem pi_z2 {X : Cx} {e1 e2 : Expr} {ta : TA} {p pos tpos : Pos} {elts : List Expr} {kk : Nat} (hg : Gl X "zip") (hm : X.mg "zip" = none) (ha : PA X [e1, e2] ta)
    (hs : starEach [e1, e2] X.env = (false, eval e1 X.env) :: starEach [e2] X.env := by rfl) (hpl : (backTo pos (starEach [e2] X.env)).any (·.1) = false := by rfl) :
    PI X (.Tuple elts kk tpos) (.Call (.Name "zip" p) [e1, e2] [] pos) (iZ2 X.K ta) := by
  refine ⟨fun pins s σ H R I h => ?_⟩
  refine Call_ (ld_blt I hg hm PyProof.Rows.boot_zip (PyProof.Rows.callWith_type1 (thn (ha.run pos pins s σ H _ I h) fun us s1 ⟨vs, H1, I1, r1, q1⟩ => ?_) hs hpl))
  obtain ⟨k1, k2, l1, l2, ys1, ys2, ex, ⟨q1, q2⟩, q⟩ := q1
  subst ex
  cases r1 with
  | cons r1v rr =>
    cases rr with
    | cons r2v rr =>
      cases rr
      cases r1v
      cases r2v
      obtain ⟨its1, rv1, p1⟩ := Inv.srcS I1 q1
      obtain ⟨its2, rv2, p2⟩ := Inv.srcS I1 q2
      have fresh : ∀ c, c ∈ ([s1.heap.objs.size + 4, s1.heap.objs.size + 2, s1.heap.objs.size + 3, s1.heap.objs.size, s1.heap.objs.size + 1] : List Addr) → FpOk X pins H1 c := fun c hcm => by
        have e' : c = s1.heap.objs.size + 4 ∨ c = s1.heap.objs.size + 2 ∨ c = s1.heap.objs.size + 3 ∨ c = s1.heap.objs.size ∨ c = s1.heap.objs.size + 1 := by simpa using hcm
        have hle : s1.heap.objs.size ≤ c := by rcases e' with z | z | z | z | z <;> (rw [z]; first | exact Nat.le_refl _ | exact Nat.le_add_right _ _)
        exact I1.fpOk hle (I1.hok.fresh hle)
      refine call_zip2 p1 p2 fun h' hz hTI hTO n1 n2 hk => wpAny_pyIter_zip hz ?_
      have I2 : L2.Inv X pins σ H1 { s1 with heap := h' } := I1.kept (t' := s1.toks) hk
      exact ⟨s1.heap.objs.size + 4, [s1.heap.objs.size + 4, s1.heap.objs.size + 2, s1.heap.objs.size + 3, s1.heap.objs.size, s1.heap.objs.size + 1], _, _, H1, rfl, I2, turn_z2 (za2 p1.lt p2.lt), ⟨hz, hTI, ⟨_, _, hTO⟩, n1, n2⟩, fresh, q⟩
/-- a datum's items, by their places -/
def seqQ : D → Option (List D)
  | .lst xs => some xs
  | .tup xs => some xs
  | .scr ns => some (ns.map D.int)
  | _ => none
theorem seqQ_rep {G : GC} {F H : Hp} {v : V} {d : D} {ds : List D} (s : Same F H) (r : Rep G F v d) (e : seqQ d = some ds) : ∃ k a ys, v = .ref a ∧ SqS G.K H k a ys ∧ RepAll G F ys ds := by
  cases r with
  | tup h ra => cases e; exact ⟨false, _, _, rfl, Same.sqT s h, ra⟩
  | lst h ra => cases e; exact ⟨true, _, _, rfl, .of (s _ _ h), ra⟩
  | scr h => cases e; exact ⟨true, _, _, rfl, s.seq h, ints_rep _⟩
  | _ => cases e
def zipL2 (xs ys : List D) : List D := (xs.zip ys).map fun p => .tup [p.1, p.2]
def zipL3 (xs ys zs : List D) : List D := (xs.zip (ys.zip zs)).map fun p => .tup [p.1, p.2.1, p.2.2]
def zip2D : List D → Res (List D)
  | [a, b] => match seqQ a, seqQ b with
    | some xs, some ys => .ok (zipL2 xs ys)
    | _, _ => .bad
  | _ => .bad
def zip3D : List D → Res (List D)
  | [a, b, c] => match seqQ a, seqQ b, seqQ c with
    | some xs, some ys, some zs => .ok (zipL3 xs ys zs)
    | _, _, _ => .bad
  | _ => .bad
theorem zip2D_inv (ds : List D) : (∃ a b xs ys, ds = [a, b] ∧ seqQ a = some xs ∧ seqQ b = some ys ∧ zip2D ds = .ok (zipL2 xs ys)) ∨ zip2D ds = .bad := by
  unfold zip2D
  split
  · rename_i a b
    split
    · rename_i xs ys h1 h2; exact .inl ⟨a, b, xs, ys, rfl, h1, h2, rfl⟩
    · exact .inr rfl
  · exact .inr rfl
theorem zip3D_inv (ds : List D) : (∃ a b c xs ys zs, ds = [a, b, c] ∧ seqQ a = some xs ∧ seqQ b = some ys ∧ seqQ c = some zs ∧ zip3D ds = .ok (zipL3 xs ys zs)) ∨ zip3D ds = .bad := by
  unfold zip3D
  split
  · rename_i a b c
    split
    · rename_i xs ys zs h1 h2 h3; exact .inl ⟨a, b, c, xs, ys, zs, rfl, h1, h2, h3, rfl⟩
    · exact .inr rfl
  · exact .inr rfl
theorem WalkD.zip2 {G : GC} {F : Hp} {k1 k2 : Bool} {l1 l2 : Addr} {ys1 ys2 : List V} {d1 d2 : List D} (hs : SqS G.K F k1 l1 ys1 ∧ SqS G.K F k2 l2 ys2) (r1 : RepAll G F ys1 d1) (r2 : RepAll G F ys2 d2) : WalkD G F F (ItZ2 G.K k1 k2 l1 l2 ys1 ys2) (zipL2 d1 d2) where
  goes := fun i H hi s => by
    obtain ⟨q1, q2⟩ := hs
    have w1 := r1.length
    have w2 := r2.length
    simp only [zipL2, List.length_map, List.length_zip] at hi
    exact ⟨⟨q1.keep s, q2.keep s⟩, by omega, by omega⟩
  stops := fun H s => by
    obtain ⟨q1, q2⟩ := hs
    have w1 := r1.length
    have w2 := r2.length
    refine ⟨⟨q1.keep s, q2.keep s⟩, ?_⟩
    simp only [zipL2, List.length_map, List.length_zip]
    omega
  yields := fun i F2 H2 v H3 hi s1 s2 _ ⟨T, x1, x2, e1, e2, e3, g1, g2⟩ => by
    subst e1 e3
    obtain ⟨c1, t1, m1⟩ := r1.getV g1
    obtain ⟨c2, t2, m2⟩ := r2.getV g2
    refine ⟨_, .tup [c1, c2], Grow.mk1 s2 e2, ?_, Rep.tup (.of upd_same) (.cons ((m1.mono s1).mono (Grow.mk1 s2 e2).f) (.cons ((m2.mono s1).mono (Grow.mk1 s2 e2).f) (.nil)))⟩
    unfold zipL2
    have hz : (d1.zip d2)[i]? = some (c1, c2) := List.getElem?_zip_eq_some.mpr ⟨t1, t2⟩
    rw [List.getElem?_map, hz]
    rfl
theorem ri_zip2 {X : Cx} {W : Wi} {e1 e2 : Expr} {p pos tpos : Pos} {elts : List Expr} {kk : Nat} {fa : Env → Res (List D)} (hm : X.mg "zip" = none) (ha : RA X W [e1, e2] fa) (hg : Gl X "zip" := by rfl)
    (hs : starEach [e1, e2] X.env = (false, eval e1 X.env) :: starEach [e2] X.env := by rfl) (hpl : (backTo pos (starEach [e2] X.env)).any (·.1) = false := by rfl) :
    RI X W true (.Tuple elts kk tpos) (.Call (.Name "zip" p) [e1, e2] [] pos) (fun r => fa r >>= zip2D) := by
  refine ⟨fun pins s σ H R I ⟨H0, F0, fp, F, r, m, o⟩ => (pi_z2 hg hm ha hs hpl).run pins s σ H R I ⟨H0, F0, fp, F, r, m, o.bind fun F' H' ds gr o2 vs rv => ?_⟩⟩
  rcases zip2D_inv ds with ⟨a, b, xs, ys, rfl, w1, w2, e⟩ | e
  · rw [e] at o2
    cases rv with
    | cons v1 rr =>
      cases rr with
      | cons v2 rr =>
        cases rr
        obtain ⟨k1, l1, ys1, rfl, q1, r1⟩ := seqQ_rep (Same.refl F') v1 w1
        obtain ⟨k2, l2, ys2, rfl, q2, r2⟩ := seqQ_rep (Same.refl F') v2 w2
        refine ⟨k1, k2, l1, l2, ys1, ys2, rfl, ⟨q1.keep gr.sub, q2.keep gr.sub⟩, o2 F' H' (Grow.refl gr.sub) _ (WalkD.zip2 ⟨q1, q2⟩ r1 r2)⟩
  · rw [e] at o2; exact o2.elim
structure ZA3 (z TI TO i1 i2 i3 l1 l2 l3 : Addr) : Prop where
  TIz : TI ≠ z
  TOz : TO ≠ z
  TITO : TI ≠ TO
  i1z : i1 ≠ z
  TIi1 : TI ≠ i1
  TOi1 : TO ≠ i1
  l1z : l1 ≠ z
  l1TO : l1 ≠ TO
  l1i1 : l1 ≠ i1
  l1i2 : l1 ≠ i2
  i1i2 : i1 ≠ i2
  l1i3 : l1 ≠ i3
  i1i3 : i1 ≠ i3
  i2z : i2 ≠ z
  TIi2 : TI ≠ i2
  TOi2 : TO ≠ i2
  l2z : l2 ≠ z
  l2TO : l2 ≠ TO
  l2i1 : l2 ≠ i1
  l2i2 : l2 ≠ i2
  l2i3 : l2 ≠ i3
  i2i3 : i2 ≠ i3
  i3z : i3 ≠ z
  TIi3 : TI ≠ i3
  TOi3 : TO ≠ i3
  l3z : l3 ≠ z
  l3TO : l3 ≠ TO
  l3i1 : l3 ≠ i1
  l3i2 : l3 ≠ i2
  l3i3 : l3 ≠ i3
section
variable {prog : Program} {w : World} {A : Around} {E : Value → Shared → Prop} {s : Shared}
theorem zip3_item {z TI TO i1 i2 i3 l1 l2 l3 : Addr} {k1 k2 k3 : Bool} {p : Nat} {xs1 xs2 xs3 : Array Value} {x1 x2 x3 o1 o2 o3 : Value} {Q : Value → Shared → Prop} (D : ZA3 z TI TO i1 i2 i3 l1 l2 l3) (hz : IsZip s.heap z TI TO .none) (hTI : IsT s.heap TI #[.ref i1, .ref i2, .ref i3]) (hTO : IsT s.heap TO #[o1, o2, o3]) (h1 : SIt s.heap k1 i1 l1 p) (hl1 : SSrc s.heap k1 l1 xs1) (h2 : SIt s.heap k2 i2 l2 p) (hl2 : SSrc s.heap k2 l2 xs2) (h3 : SIt s.heap k3 i3 l3 p) (hl3 : SSrc s.heap k3 l3 xs3) (hx1 : xs1[p]? = some x1) (hx2 : xs2[p]? = some x2) (hx3 : xs3[p]? = some x3)
    (hQ : ∀ h', IsZip h' z TI TO (rawInt s.heap.objs.size) → IsT h' TO #[x1, x2, x3] → SIt h' k1 i1 l1 (p + 1) → SIt h' k2 i2 l2 (p + 1) → SIt h' k3 i3 l3 (p + 1) → IsT h' s.heap.objs.size #[x1, x2, x3] → h'.objs.size = s.heap.objs.size + 1 → (∀ c o, c ≠ z → c ≠ TO → c ≠ i1 → c ≠ i2 → c ≠ i3 → s.heap.get? c = some o → h'.get? c = some o) → Q (.ref s.heap.objs.size) { s with heap := h' }) :
    wpAny (model prog w) A (Builtin.«zip.__next__» ⟨[.ref z], []⟩) (fun fin s' => ∃ v, fin = .done (.ret v) ∧ Q v s') E s := by
  show wpAny _ _ (field (.ref z) 2 >>= _) _ _ _
  refine wpAny_bind (wpAny_field hz rfl (x := .bool false) rfl ?_)
  show wpAny _ _ (field (.ref z) 3 >>= _) _ _ _
  refine wpAny_bind (wpAny_field hz rfl (x := .ref TI) rfl ?_)
  refine wpAny_bind (wpAny_seqItems hTI rfl ?_)
  show wpAny _ _ (Builtin.SmallTypes.ownedTupleIsFree (.ref z) >>= _) _ _ _
  refine wpAny_bind ?_
  unfold Builtin.SmallTypes.ownedTupleIsFree
  refine wpAny_bind (wpAny_field hz rfl (x := .none) rfl (wpAny_pure ?_))
  simp only [if_true]
  refine wpAny_bind (wpAny_rule ?_)
  refine wpAny_bind (wpAny_field hz rfl (x := .ref TO) rfl ?_)
  refine wpAny_bind (wpAny_setField_rec hz (by simp) fun g0 zz0 s0 => ?_)
  replace zz0 : IsZip g0 z TI TO .ellipsis := zz0
  have K0 : ∀ c o, c ≠ z → s.heap.get? c = some o → g0.get? c = some o := fun c o c1 e => s0.extBut _ _ c1 e
  have T0 : IsT g0 TO #[o1, o2, o3] := K0 _ _ D.TOz hTO
  have Z0 : g0.objs.size = s.heap.objs.size := s0.1
  refine wpAny_bind ?_
  simp only [List.zipIdx_cons, List.zipIdx_nil, List.forIn_cons, List.forIn_nil]
  refine wpAny_bind (wpAny_bind (wpAny_onRaise ?_))
  show wpAny _ _ (Builtin.SmallTypes.nextOf (.ref i1) >>= _) _ _ _
  have I1 : SIt g0 k1 i1 l1 p := h1.at fun o e => K0 _ o (D.i1z) e
  have L1 : SSrc g0 k1 l1 xs1 := hl1.at fun o e => K0 _ o (D.l1z) e
  refine wpAny_bind (nextS_item I1 L1 hx1 fun a1 n1 sa1 => wpAny_pure ?_)
  have Ta1 : IsT a1 TO #[o1, o2, o3] := sa1.extBut _ _ (D.TOi1) T0
  refine wpAny_bind (wpAny_seqItems Ta1 rfl ?_)
  refine wpAny_bind (updT Ta1 (by simp) fun g1 T1 st1 => ?_)
  replace T1 : IsT g1 TO #[x1, o2, o3] := T1
  have K1 : ∀ c o, c ≠ z → c ≠ TO → c ≠ i1 → s.heap.get? c = some o → g1.get? c = some o := fun c o c0 c1 c2 e => st1.extBut _ _ c1 (sa1.extBut _ _ c2 (K0 c o c0 e))
  have zz1 : IsZip g1 z TI TO .ellipsis := st1.extBut _ _ (D.TOz.symm) (sa1.extBut _ _ (D.i1z.symm) zz0)
  have Z1 : g1.objs.size = s.heap.objs.size := by rw [st1.1, sa1.1, Z0]
  have N1_1 : SIt g1 k1 i1 l1 (p + 1) := n1.at fun o e => st1.extBut _ _ (D.TOi1.symm) e
  refine wpAny_bind (wpAny_letGo (wpAny_pure ?_))
  refine wpAny_bind (wpAny_bind (wpAny_onRaise ?_))
  show wpAny _ _ (Builtin.SmallTypes.nextOf (.ref i2) >>= _) _ _ _
  have I2 : SIt g1 k2 i2 l2 p := h2.at fun o e => K1 _ o (D.i2z) (D.TOi2.symm) (D.i1i2.symm) e
  have L2 : SSrc g1 k2 l2 xs2 := hl2.at fun o e => K1 _ o (D.l2z) (D.l2TO) (D.l2i1) e
  refine wpAny_bind (nextS_item I2 L2 hx2 fun a2 n2 sa2 => wpAny_pure ?_)
  have Ta2 : IsT a2 TO #[x1, o2, o3] := sa2.extBut _ _ (D.TOi2) T1
  refine wpAny_bind (wpAny_seqItems Ta2 rfl ?_)
  refine wpAny_bind (updT Ta2 (by simp) fun g2 T2 st2 => ?_)
  replace T2 : IsT g2 TO #[x1, x2, o3] := T2
  have K2 : ∀ c o, c ≠ z → c ≠ TO → c ≠ i1 → c ≠ i2 → s.heap.get? c = some o → g2.get? c = some o := fun c o c0 c1 c2 c3 e => st2.extBut _ _ c1 (sa2.extBut _ _ c3 (K1 c o c0 c1 c2 e))
  have zz2 : IsZip g2 z TI TO .ellipsis := st2.extBut _ _ (D.TOz.symm) (sa2.extBut _ _ (D.i2z.symm) zz1)
  have Z2 : g2.objs.size = s.heap.objs.size := by rw [st2.1, sa2.1, Z1]
  have N2_2 : SIt g2 k2 i2 l2 (p + 1) := n2.at fun o e => st2.extBut _ _ (D.TOi2.symm) e
  have N1_2 : SIt g2 k1 i1 l1 (p + 1) := N1_1.at fun o e => st2.extBut _ _ (D.TOi1.symm) (sa2.extBut _ _ (D.i1i2) e)
  refine wpAny_bind (wpAny_letGo (wpAny_pure ?_))
  refine wpAny_bind (wpAny_bind (wpAny_onRaise ?_))
  show wpAny _ _ (Builtin.SmallTypes.nextOf (.ref i3) >>= _) _ _ _
  have I3 : SIt g2 k3 i3 l3 p := h3.at fun o e => K2 _ o (D.i3z) (D.TOi3.symm) (D.i1i3.symm) (D.i2i3.symm) e
  have L3 : SSrc g2 k3 l3 xs3 := hl3.at fun o e => K2 _ o (D.l3z) (D.l3TO) (D.l3i1) (D.l3i2) e
  refine wpAny_bind (nextS_item I3 L3 hx3 fun a3 n3 sa3 => wpAny_pure ?_)
  have Ta3 : IsT a3 TO #[x1, x2, o3] := sa3.extBut _ _ (D.TOi3) T2
  refine wpAny_bind (wpAny_seqItems Ta3 rfl ?_)
  refine wpAny_bind (updT Ta3 (by simp) fun g3 T3 st3 => ?_)
  replace T3 : IsT g3 TO #[x1, x2, x3] := T3
  have K3 : ∀ c o, c ≠ z → c ≠ TO → c ≠ i1 → c ≠ i2 → c ≠ i3 → s.heap.get? c = some o → g3.get? c = some o := fun c o c0 c1 c2 c3 c4 e => st3.extBut _ _ c1 (sa3.extBut _ _ c4 (K2 c o c0 c1 c2 c3 e))
  have zz3 : IsZip g3 z TI TO .ellipsis := st3.extBut _ _ (D.TOz.symm) (sa3.extBut _ _ (D.i3z.symm) zz2)
  have Z3 : g3.objs.size = s.heap.objs.size := by rw [st3.1, sa3.1, Z2]
  have N3_3 : SIt g3 k3 i3 l3 (p + 1) := n3.at fun o e => st3.extBut _ _ (D.TOi3.symm) e
  have N1_3 : SIt g3 k1 i1 l1 (p + 1) := N1_2.at fun o e => st3.extBut _ _ (D.TOi1.symm) (sa3.extBut _ _ (D.i1i3) e)
  have N2_3 : SIt g3 k2 i2 l2 (p + 1) := N2_2.at fun o e => st3.extBut _ _ (D.TOi2.symm) (sa3.extBut _ _ (D.i2i3) e)
  refine wpAny_bind (wpAny_letGo (wpAny_pure (wpAny_pure ?_)))
  refine wpAny_bind (wpAny_seqItems T3 rfl ?_)
  refine wpAny_bind (wpAny_newTuple ?_)
  show wpAny _ _ (Builtin.SmallTypes.ownedTupleHandOut (.ref z) (.ref g3.objs.size) >>= _) _ _ _
  refine wpAny_bind ?_
  unfold Builtin.SmallTypes.ownedTupleHandOut
  have hzl : z < g3.objs.size := Heap.lt_size zz3
  have zp : IsZip (g3.push { cls := .type "tuple", data := .seq #[x1, x2, x3] }) z TI TO .ellipsis := Heap.get?_push_of_some _ zz3
  refine wpAny_bind (wpAny_setField_rec zp (by simp) fun e7 z7 s7 => ?_)
  replace z7 : IsZip e7 z TI TO (rawInt g3.objs.size) := z7
  refine wpAny_setField_rec z7 (by simp) fun e8 z8 s8 => ?_
  replace z8 : IsZip e8 z TI TO (rawInt g3.objs.size) := z8
  have up : ∀ c o, c ≠ z → g3.get? c = some o → e8.get? c = some o := fun c o c1 e => s8.extBut _ _ c1 (s7.extBut _ _ c1 (Heap.get?_push_of_some _ e))
  have t8 : IsT e8 g3.objs.size #[x1, x2, x3] := s8.extBut _ _ (Nat.ne_of_gt hzl) (s7.extBut _ _ (Nat.ne_of_gt hzl) (Heap.get?_push_size _ rfl))
  have y8 : e8.objs.size = g3.objs.size + 1 := by rw [s8.1, s7.1, Heap.size_push]
  rw [Z3] at z8 t8 y8
  refine wpAny_pure ⟨_, rfl, ?_⟩
  show Q (.ref g3.objs.size) _
  rw [Z3]
  exact hQ e8 z8 (up _ _ D.TOz T3) (N1_3.at fun o e => up _ o D.i1z e) (N2_3.at fun o e => up _ o D.i2z e) (N3_3.at fun o e => up _ o D.i3z e) t8 y8 fun c o c0 c1 c2 c3 c4 e => up c o c0 (K3 c o c0 c1 c2 c3 c4 e)
theorem zip3_end {z TI TO i1 i2 i3 l1 l2 l3 : Addr} {k1 k2 k3 : Bool} {p : Nat} {xs1 xs2 xs3 : Array Value} {o1 o2 o3 : Value} {Q : Fin → Shared → Prop} (hh : A.handled = none) (D : ZA3 z TI TO i1 i2 i3 l1 l2 l3) (hz : IsZip s.heap z TI TO .none) (hTI : IsT s.heap TI #[.ref i1, .ref i2, .ref i3]) (hTO : IsT s.heap TO #[o1, o2, o3]) (h1 : SIt s.heap k1 i1 l1 p) (hl1 : SSrc s.heap k1 l1 xs1) (h2 : SIt s.heap k2 i2 l2 p) (hl2 : SSrc s.heap k2 l2 xs2) (h3 : SIt s.heap k3 i3 l3 p) (hl3 : SSrc s.heap k3 l3 xs3) (hend : xs1[p]? = none ∨ xs2[p]? = none ∨ xs3[p]? = none)
    (hE : ∀ h' e, (∀ c o, c ≠ z → c ≠ TO → c ≠ i1 → c ≠ i2 → c ≠ i3 → s.heap.get? c = some o → h'.get? c = some o) → (∃ o, h'.get? e = some o ∧ o.cls = .type "StopIteration") → E (.ref e) { s with heap := h' }) :
    wpAny (model prog w) A (Builtin.«zip.__next__» ⟨[.ref z], []⟩) Q E s := by
  show wpAny _ _ (field (.ref z) 2 >>= _) _ _ _
  refine wpAny_bind (wpAny_field hz rfl (x := .bool false) rfl ?_)
  show wpAny _ _ (field (.ref z) 3 >>= _) _ _ _
  refine wpAny_bind (wpAny_field hz rfl (x := .ref TI) rfl ?_)
  refine wpAny_bind (wpAny_seqItems hTI rfl ?_)
  show wpAny _ _ (Builtin.SmallTypes.ownedTupleIsFree (.ref z) >>= _) _ _ _
  refine wpAny_bind ?_
  unfold Builtin.SmallTypes.ownedTupleIsFree
  refine wpAny_bind (wpAny_field hz rfl (x := .none) rfl (wpAny_pure ?_))
  simp only [if_true]
  refine wpAny_bind (wpAny_rule ?_)
  refine wpAny_bind (wpAny_field hz rfl (x := .ref TO) rfl ?_)
  refine wpAny_bind (wpAny_setField_rec hz (by simp) fun g0 zz0 s0 => ?_)
  replace zz0 : IsZip g0 z TI TO .ellipsis := zz0
  have K0 : ∀ c o, c ≠ z → s.heap.get? c = some o → g0.get? c = some o := fun c o c1 e => s0.extBut _ _ c1 e
  have T0 : IsT g0 TO #[o1, o2, o3] := K0 _ _ D.TOz hTO
  have Z0 : g0.objs.size = s.heap.objs.size := s0.1
  refine wpAny_bind ?_
  simp only [List.zipIdx_cons, List.zipIdx_nil, List.forIn_cons, List.forIn_nil]
  refine wpAny_bind (wpAny_bind (wpAny_onRaise ?_))
  show wpAny _ _ (Builtin.SmallTypes.nextOf (.ref i1) >>= _) _ _ _
  have I1 : SIt g0 k1 i1 l1 p := h1.at fun o e => K0 _ o (D.i1z) e
  have L1 : SSrc g0 k1 l1 xs1 := hl1.at fun o e => K0 _ o (D.l1z) e
  cases hx1 : xs1[p]? with
  | none =>
    refine wpAny_bind (nextS_end hh I1 L1 hx1 fun ae e xe he => ?_)
    obtain ⟨oe, hoe, hce⟩ := he
    have ze : IsZip ae z TI TO .ellipsis := xe _ _ (D.i1z.symm) zz0
    have hez : e ≠ z := fun q => by subst q; rw [ze] at hoe; cases hoe; simp at hce
    refine wpAny_setField_rec ze (by simp) fun be _ sb => hE be e (fun c o c0 c1 c2 c3 c4 q => sb.extBut _ _ c0 (xe _ _ c2 (K0 c o c0 q))) ⟨oe, sb.extBut _ _ hez hoe, hce⟩
  | some x1 =>
    refine wpAny_bind (nextS_item I1 L1 hx1 fun a1 n1 sa1 => wpAny_pure ?_)
    have Ta1 : IsT a1 TO #[o1, o2, o3] := sa1.extBut _ _ (D.TOi1) T0
    refine wpAny_bind (wpAny_seqItems Ta1 rfl ?_)
    refine wpAny_bind (updT Ta1 (by simp) fun g1 T1 st1 => ?_)
    replace T1 : IsT g1 TO #[x1, o2, o3] := T1
    have K1 : ∀ c o, c ≠ z → c ≠ TO → c ≠ i1 → s.heap.get? c = some o → g1.get? c = some o := fun c o c0 c1 c2 e => st1.extBut _ _ c1 (sa1.extBut _ _ c2 (K0 c o c0 e))
    have zz1 : IsZip g1 z TI TO .ellipsis := st1.extBut _ _ (D.TOz.symm) (sa1.extBut _ _ (D.i1z.symm) zz0)
    have Z1 : g1.objs.size = s.heap.objs.size := by rw [st1.1, sa1.1, Z0]
    have N1_1 : SIt g1 k1 i1 l1 (p + 1) := n1.at fun o e => st1.extBut _ _ (D.TOi1.symm) e
    refine wpAny_bind (wpAny_letGo (wpAny_pure ?_))
    refine wpAny_bind (wpAny_bind (wpAny_onRaise ?_))
    show wpAny _ _ (Builtin.SmallTypes.nextOf (.ref i2) >>= _) _ _ _
    have I2 : SIt g1 k2 i2 l2 p := h2.at fun o e => K1 _ o (D.i2z) (D.TOi2.symm) (D.i1i2.symm) e
    have L2 : SSrc g1 k2 l2 xs2 := hl2.at fun o e => K1 _ o (D.l2z) (D.l2TO) (D.l2i1) e
    cases hx2 : xs2[p]? with
    | none =>
      refine wpAny_bind (nextS_end hh I2 L2 hx2 fun ae e xe he => ?_)
      obtain ⟨oe, hoe, hce⟩ := he
      have ze : IsZip ae z TI TO .ellipsis := xe _ _ (D.i2z.symm) zz1
      have hez : e ≠ z := fun q => by subst q; rw [ze] at hoe; cases hoe; simp at hce
      refine wpAny_setField_rec ze (by simp) fun be _ sb => hE be e (fun c o c0 c1 c2 c3 c4 q => sb.extBut _ _ c0 (xe _ _ c3 (K1 c o c0 c1 c2 q))) ⟨oe, sb.extBut _ _ hez hoe, hce⟩
    | some x2 =>
      refine wpAny_bind (nextS_item I2 L2 hx2 fun a2 n2 sa2 => wpAny_pure ?_)
      have Ta2 : IsT a2 TO #[x1, o2, o3] := sa2.extBut _ _ (D.TOi2) T1
      refine wpAny_bind (wpAny_seqItems Ta2 rfl ?_)
      refine wpAny_bind (updT Ta2 (by simp) fun g2 T2 st2 => ?_)
      replace T2 : IsT g2 TO #[x1, x2, o3] := T2
      have K2 : ∀ c o, c ≠ z → c ≠ TO → c ≠ i1 → c ≠ i2 → s.heap.get? c = some o → g2.get? c = some o := fun c o c0 c1 c2 c3 e => st2.extBut _ _ c1 (sa2.extBut _ _ c3 (K1 c o c0 c1 c2 e))
      have zz2 : IsZip g2 z TI TO .ellipsis := st2.extBut _ _ (D.TOz.symm) (sa2.extBut _ _ (D.i2z.symm) zz1)
      have Z2 : g2.objs.size = s.heap.objs.size := by rw [st2.1, sa2.1, Z1]
      have N2_2 : SIt g2 k2 i2 l2 (p + 1) := n2.at fun o e => st2.extBut _ _ (D.TOi2.symm) e
      have N1_2 : SIt g2 k1 i1 l1 (p + 1) := N1_1.at fun o e => st2.extBut _ _ (D.TOi1.symm) (sa2.extBut _ _ (D.i1i2) e)
      refine wpAny_bind (wpAny_letGo (wpAny_pure ?_))
      refine wpAny_bind (wpAny_bind (wpAny_onRaise ?_))
      show wpAny _ _ (Builtin.SmallTypes.nextOf (.ref i3) >>= _) _ _ _
      have I3 : SIt g2 k3 i3 l3 p := h3.at fun o e => K2 _ o (D.i3z) (D.TOi3.symm) (D.i1i3.symm) (D.i2i3.symm) e
      have L3 : SSrc g2 k3 l3 xs3 := hl3.at fun o e => K2 _ o (D.l3z) (D.l3TO) (D.l3i1) (D.l3i2) e
      cases hx3 : xs3[p]? with
      | none =>
        refine wpAny_bind (nextS_end hh I3 L3 hx3 fun ae e xe he => ?_)
        obtain ⟨oe, hoe, hce⟩ := he
        have ze : IsZip ae z TI TO .ellipsis := xe _ _ (D.i3z.symm) zz2
        have hez : e ≠ z := fun q => by subst q; rw [ze] at hoe; cases hoe; simp at hce
        refine wpAny_setField_rec ze (by simp) fun be _ sb => hE be e (fun c o c0 c1 c2 c3 c4 q => sb.extBut _ _ c0 (xe _ _ c4 (K2 c o c0 c1 c2 c3 q))) ⟨oe, sb.extBut _ _ hez hoe, hce⟩
      | some x3 =>
        rcases hend with q | q | q
        · rw [hx1] at q; cases q
        · rw [hx2] at q; cases q
        · rw [hx3] at q; cases q
theorem pyNext_zip3 {z TI TO i1 i2 i3 l1 l2 l3 : Addr} {k1 k2 k3 : Bool} {p : Nat} {xs1 xs2 xs3 : Array Value} {x1 x2 x3 o1 o2 o3 : Value} {Q : Option Value → Shared → Prop} (D : ZA3 z TI TO i1 i2 i3 l1 l2 l3) (hz : IsZip s.heap z TI TO .none) (hTI : IsT s.heap TI #[.ref i1, .ref i2, .ref i3]) (hTO : IsT s.heap TO #[o1, o2, o3]) (h1 : SIt s.heap k1 i1 l1 p) (hl1 : SSrc s.heap k1 l1 xs1) (h2 : SIt s.heap k2 i2 l2 p) (hl2 : SSrc s.heap k2 l2 xs2) (h3 : SIt s.heap k3 i3 l3 p) (hl3 : SSrc s.heap k3 l3 xs3) (hx1 : xs1[p]? = some x1) (hx2 : xs2[p]? = some x2) (hx3 : xs3[p]? = some x3)
    (hQ : ∀ h', IsZip h' z TI TO (rawInt s.heap.objs.size) → IsT h' TO #[x1, x2, x3] → SIt h' k1 i1 l1 (p + 1) → SIt h' k2 i2 l2 (p + 1) → SIt h' k3 i3 l3 (p + 1) → IsT h' s.heap.objs.size #[x1, x2, x3] → h'.objs.size = s.heap.objs.size + 1 → (∀ c o, c ≠ z → c ≠ TO → c ≠ i1 → c ≠ i2 → c ≠ i3 → s.heap.get? c = some o → h'.get? c = some o) → Q (some (.ref s.heap.objs.size)) { s with heap := h' }) :
    wpAny (model prog w) A (pyNext (.ref z)) Q E s := by
  have hT : s.TypeIs (.ref z) "zip" := ⟨_, hz, rfl⟩
  unfold pyNext
  exact wpAny_bind (wpAny_attempt (wpAny_callSpecial?_slot (name := Str.ofString "__next__") hT F.slot_zip_next (wpAny_call_entry F.slot_zip_next hT F.entry_zip_next (zip3_item D hz hTI hTO h1 hl1 h2 hl2 h3 hl3 hx1 hx2 hx3 fun h' a0 a1 a2 a3 a4 a5 a6 a7 => wpAny_pure (hQ h' a0 a1 a2 a3 a4 a5 a6 a7)) (F.args_zip_next_1 _))))
theorem pyNext_zip3_end {z TI TO i1 i2 i3 l1 l2 l3 : Addr} {k1 k2 k3 : Bool} {p : Nat} {xs1 xs2 xs3 : Array Value} {o1 o2 o3 : Value} {Q : Option Value → Shared → Prop} (hh : A.handled = none) (D : ZA3 z TI TO i1 i2 i3 l1 l2 l3) (hz : IsZip s.heap z TI TO .none) (hTI : IsT s.heap TI #[.ref i1, .ref i2, .ref i3]) (hTO : IsT s.heap TO #[o1, o2, o3]) (h1 : SIt s.heap k1 i1 l1 p) (hl1 : SSrc s.heap k1 l1 xs1) (h2 : SIt s.heap k2 i2 l2 p) (hl2 : SSrc s.heap k2 l2 xs2) (h3 : SIt s.heap k3 i3 l3 p) (hl3 : SSrc s.heap k3 l3 xs3) (hend : xs1[p]? = none ∨ xs2[p]? = none ∨ xs3[p]? = none)
    (hQ : ∀ h', (∀ c o, c ≠ z → c ≠ TO → c ≠ i1 → c ≠ i2 → c ≠ i3 → s.heap.get? c = some o → h'.get? c = some o) → Q none { s with heap := h' }) : wpAny (model prog w) A (pyNext (.ref z)) Q E s := by
  have hT : s.TypeIs (.ref z) "zip" := ⟨_, hz, rfl⟩
  unfold pyNext
  refine wpAny_bind (wpAny_attempt (wpAny_callSpecial?_slot (name := Str.ofString "__next__") hT F.slot_zip_next (wpAny_call_entry F.slot_zip_next hT F.entry_zip_next (zip3_end hh D hz hTI hTO h1 hl1 h2 hl2 h3 hl3 hend fun h' e hk he => ?_) (F.args_zip_next_1 _))))
  obtain ⟨o, ho, hc⟩ := he
  refine wpAny_bind (wpAny_isInstance (T := "StopIteration") (b := true) ⟨o, ho, hc⟩ isSubtype_stop ?_)
  exact wpAny_pure (hQ _ hk)
end
abbrev zH3_1 (h : Heap) (k1 : Bool) (l1 : Addr) : Heap := h.push { cls := .type (clsI k1), data := .fields #[.ref l1, .int 0 0] }
abbrev zH3_2 (h : Heap) (k1 k2 : Bool) (l1 l2 : Addr) : Heap := (zH3_1 h k1 l1).push { cls := .type (clsI k2), data := .fields #[.ref l2, .int 0 0] }
abbrev zH3_3 (h : Heap) (k1 k2 k3 : Bool) (l1 l2 l3 : Addr) : Heap := (zH3_2 h k1 k2 l1 l2).push { cls := .type (clsI k3), data := .fields #[.ref l3, .int 0 0] }
abbrev zH3_T (h : Heap) (k1 k2 k3 : Bool) (l1 l2 l3 : Addr) : Heap := (zH3_3 h k1 k2 k3 l1 l2 l3).push { cls := .type "tuple", data := .seq #[.ref h.objs.size, .ref (zH3_1 h k1 l1).objs.size, .ref (zH3_2 h k1 k2 l1 l2).objs.size] }
abbrev zH3_O (h : Heap) (k1 k2 k3 : Bool) (l1 l2 l3 : Addr) : Heap := (zH3_T h k1 k2 k3 l1 l2 l3).push { cls := .type "tuple", data := .seq #[.none, .none, .none] }
abbrev zH3_Z (h : Heap) (k1 k2 k3 : Bool) (l1 l2 l3 : Addr) : Heap := (zH3_O h k1 k2 k3 l1 l2 l3).push { cls := .type "zip", data := .fields #[.none, .bool false, .bool false, .ref (zH3_3 h k1 k2 k3 l1 l2 l3).objs.size, .ref (zH3_T h k1 k2 k3 l1 l2 l3).objs.size] }
theorem meets_zip3 (k1 k2 k3 : Bool) (l1 l2 l3 : Addr) (xs1 xs2 xs3 : Array Value) :
    Meets (Builtin.«zip.__new__» ⟨[.type "zip", .ref l1, .ref l2, .ref l3], []⟩) (fun _ R s => (SSrc s.heap k1 l1 xs1 ∧ SSrc s.heap k2 l2 xs2 ∧ SSrc s.heap k3 l3 xs3) ∧ R (.ok (.ret (.ref (zH3_O s.heap k1 k2 k3 l1 l2 l3).objs.size))) { s with heap := zH3_Z s.heap k1 k2 k3 l1 l2 l3 }) :=
  .of_wp fun prog w A R s h => by
    obtain ⟨hp, g, d, tk, os⟩ := s; obtain ⟨⟨hl1, hl2, hl3⟩, h⟩ := h
    have hsub := sub_zip
    have M1 : SSrc (Shared.heap ⟨hp, g, d, tk, os⟩) k1 l1 xs1 := hl1
    have M2 : SSrc (Shared.heap ⟨(hp.push { cls := .type (clsI k1), data := .fields #[.ref l1, .int 0 0] }), g, d, tk, os⟩) k2 l2 xs2 := hl2.at fun o e => Heap.get?_push_of_some _ (e)
    have M3 : SSrc (Shared.heap ⟨((hp.push { cls := .type (clsI k1), data := .fields #[.ref l1, .int 0 0] }).push { cls := .type (clsI k2), data := .fields #[.ref l2, .int 0 0] }), g, d, tk, os⟩) k3 l3 xs3 := hl3.at fun o e => Heap.get?_push_of_some _ (Heap.get?_push_of_some _ (e))
    wp_walk using iterS M1, iterS M2, iterS M3
    exact ⟨_, rfl, h⟩
theorem tc_zip3 (a1 a2 a3 : Value) : checkTypeCall "zip" ⟨[a1, a2, a3], []⟩ = pure () := by kernel_rfl
theorem nc_zip3 (a1 a2 a3 : Value) : checkBuiltinCall "zip.__new__" ⟨[.type "zip", a1, a2, a3], []⟩ = pure () := by kernel_rfl
theorem ai_zip3 (b a1 a2 a3 : Value) : argsOk "object.__init__" ⟨[b, a1, a2, a3], []⟩ := by
  unfold argsOk; rw [signature?_of (id := "object.__init__") (n := ['_', '_', 't', 'i', 'n', 'i', '_', '_']) (o := ['t', 'c', 'e', 'j', 'b', 'o']) (by kernel_rfl) F.owner_object]; kernel_rfl
section
variable {prog : Program} {w : World} {A : Around} {E : Value → Shared → Prop} {s : Shared}
theorem call_zip3 {k1 k2 k3 : Bool} {l1 l2 l3 : Addr} {xs1 xs2 xs3 : Array Value} {Q : Value → Shared → Prop} (hl1 : SSrc s.heap k1 l1 xs1) (hl2 : SSrc s.heap k2 l2 xs2) (hl3 : SSrc s.heap k3 l3 xs3)
    (h : ∀ h', IsZip h' (s.heap.objs.size + 5) (s.heap.objs.size + 3) (s.heap.objs.size + 4) .none → IsT h' (s.heap.objs.size + 3) #[.ref s.heap.objs.size, .ref (s.heap.objs.size + 1), .ref (s.heap.objs.size + 2)] → IsT h' (s.heap.objs.size + 4) #[.none, .none, .none] → SIt h' k1 s.heap.objs.size l1 0 → SIt h' k2 (s.heap.objs.size + 1) l2 0 → SIt h' k3 (s.heap.objs.size + 2) l3 0 → (∀ c o, s.heap.get? c = some o → h'.get? c = some o) → Q (.ref (s.heap.objs.size + 5)) { s with heap := h' }) :
    wpAny (model prog w) A (call (.type "zip") [.ref l1, .ref l2, .ref l3]) Q E s := by
  refine callType_new F.called_zip (by decide) (tc_zip3 _ _ _ ) (nc_zip3 _ _ _ ) (fun obj => ai_zip3 obj _ _ _ ) F.entry_zip_new (meets_zip3 k1 k2 k3 l1 l2 l3 xs1 xs2 xs3) ⟨⟨hl1, hl2, hl3⟩, ?_⟩
  have y1 : (zH3_1 s.heap k1 l1).objs.size = s.heap.objs.size + 1 := Heap.size_push ..
  have y2 : (zH3_2 s.heap k1 k2 l1 l2).objs.size = s.heap.objs.size + 2 := by rw [Heap.size_push, y1]
  have y3 : (zH3_3 s.heap k1 k2 k3 l1 l2 l3).objs.size = s.heap.objs.size + 3 := by rw [Heap.size_push, y2]
  have y4 : (zH3_T s.heap k1 k2 k3 l1 l2 l3).objs.size = s.heap.objs.size + 4 := by rw [Heap.size_push, y3]
  have y5 : (zH3_O s.heap k1 k2 k3 l1 l2 l3).objs.size = s.heap.objs.size + 5 := by rw [Heap.size_push, y4]
  have q0 : (zH3_Z s.heap k1 k2 k3 l1 l2 l3).get? s.heap.objs.size = some _ := Heap.get?_push_of_some _ (Heap.get?_push_of_some _ (Heap.get?_push_of_some _ (Heap.get?_push_of_some _ (Heap.get?_push_of_some _ (Heap.get?_push_size _ rfl)))))
  have q1 : (zH3_Z s.heap k1 k2 k3 l1 l2 l3).get? (zH3_1 s.heap k1 l1).objs.size = some _ := Heap.get?_push_of_some _ (Heap.get?_push_of_some _ (Heap.get?_push_of_some _ (Heap.get?_push_of_some _ (Heap.get?_push_size _ rfl))))
  have q2 : (zH3_Z s.heap k1 k2 k3 l1 l2 l3).get? (zH3_2 s.heap k1 k2 l1 l2).objs.size = some _ := Heap.get?_push_of_some _ (Heap.get?_push_of_some _ (Heap.get?_push_of_some _ (Heap.get?_push_size _ rfl)))
  have q3 : (zH3_Z s.heap k1 k2 k3 l1 l2 l3).get? (zH3_3 s.heap k1 k2 k3 l1 l2 l3).objs.size = some _ := Heap.get?_push_of_some _ (Heap.get?_push_of_some _ (Heap.get?_push_size _ rfl))
  have q4 : (zH3_Z s.heap k1 k2 k3 l1 l2 l3).get? (zH3_T s.heap k1 k2 k3 l1 l2 l3).objs.size = some _ := Heap.get?_push_of_some _ (Heap.get?_push_size _ rfl)
  have q5 : (zH3_Z s.heap k1 k2 k3 l1 l2 l3).get? (zH3_O s.heap k1 k2 k3 l1 l2 l3).objs.size = some _ := Heap.get?_push_size _ rfl
  show _ ∧ _
  rw [y1] at q1
  rw [y2] at q2
  rw [y1, y2, y3] at q3
  rw [y4] at q4
  rw [y3, y4, y5] at q5
  rw [y5]
  exact ⟨⟨_, q5, rfl⟩, h _ q5 q3 q4 (show SIt _ k1 _ l1 0 by cases k1 <;> exact ⟨_, q0, rfl, rfl⟩) (show SIt _ k2 _ l2 0 by cases k2 <;> exact ⟨_, q1, rfl, rfl⟩) (show SIt _ k3 _ l3 0 by cases k3 <;> exact ⟨_, q2, rfl, rfl⟩) fun c o x => Heap.get?_push_of_some _ (Heap.get?_push_of_some _ (Heap.get?_push_of_some _ (Heap.get?_push_of_some _ (Heap.get?_push_of_some _ (Heap.get?_push_of_some _ (x))))))⟩
theorem za3 {I l1 l2 l3 : Nat} (e1 : l1 < I) (e2 : l2 < I) (e3 : l3 < I) : ZA3 (I + 5) (I + 3) (I + 4) I (I + 1) (I + 2) l1 l2 l3 := by
  constructor <;> (refine Nat.ne_iff_lt_or_gt.mpr ?_; omega)
end
/-- the items of things that stand, turn by turn, in new tuples -/
def ItZ3 (K : PySem.W.Frag) (k1 k2 k3 : Bool) (l1 l2 l3 : Addr) (ys1 ys2 ys3 : List V) : It :=
  ⟨fun i H => (SqS K H k1 l1 ys1 ∧ SqS K H k2 l2 ys2 ∧ SqS K H k3 l3 ys3) ∧ i < ys1.length ∧ i < ys2.length ∧ i < ys3.length, fun i H v H' => ∃ (T : Addr) (x1 x2 x3 : V), v = .ref T ∧ H T = none ∧ H' = upd H T (.tup [x1, x2, x3]) ∧ ys1[i]? = some x1 ∧ ys2[i]? = some x2 ∧ ys3[i]? = some x3, fun i H => (SqS K H k1 l1 ys1 ∧ SqS K H k2 l2 ys2 ∧ SqS K H k3 l3 ys3) ∧ (ys1.length ≤ i ∨ ys2.length ≤ i ∨ ys3.length ≤ i)⟩
theorem turn_z3 {P : Program} {w : World} {K : PySem.W.Frag} {elts : List Expr} {kk : Nat} {tpos : Pos} {z TI TO i1 i2 i3 l1 l2 l3 : Addr} {k1 k2 k3 : Bool} {ys1 ys2 ys3 : List V} (D : ZA3 z TI TO i1 i2 i3 l1 l2 l3) :
    Turn P w K (.Tuple elts kk tpos) (ItZ3 K k1 k2 k3 l1 l2 l3 ys1 ys2 ys3) [z, TI, TO, i1, i2, i3] z (fun i h => IsZip h z TI TO .none ∧ IsT h TI #[.ref i1, .ref i2, .ref i3] ∧ (∃ o1 o2 o3 : Value, IsT h TO #[o1, o2, o3]) ∧ SIt h k1 i1 l1 i ∧ SIt h k2 i2 l2 i ∧ SIt h k3 i3 l3 i) where
  mem := by simp
  obj := fun i h ⟨hz, hTI, ⟨o1, o2, o3, hTO⟩, h1, h2, h3⟩ c hc => by
    have e' : c = z ∨ c = TI ∨ c = TO ∨ c = i1 ∨ c = i2 ∨ c = i3 := by simpa using hc
    rcases e' with q | q | q | q | q | q
    · rw [q]; exact ⟨_, hz, fun v q => nomatch q⟩
    · rw [q]; exact ⟨_, hTI, fun v q => nomatch q⟩
    · rw [q]; exact ⟨_, hTO, fun v q => nomatch q⟩
    · rw [q]; exact h1.ob
    · rw [q]; exact h2.ob
    · rw [q]; exact h3.ob
  keep := fun i h h' ⟨hz, hTI, ⟨o1, o2, o3, hTO⟩, h1, h2, h3⟩ k => ⟨k z (by simp) _ hz, k TI (by simp) _ hTI, ⟨o1, o2, o3, k TO (by simp) _ hTO⟩, h1.at fun o q => k i1 (by simp) o q, h2.at fun o q => k i2 (by simp) o q, h3.at fun o q => k i3 (by simp) o q⟩
  item := by
    intro X hP hw hK hc i pins s σ H E I hf st hg
    subst hP hw hK
    obtain ⟨hz, hTI, ⟨o1, o2, o3, hTO⟩, h1, h2, h3⟩ := st
    obtain ⟨⟨q1, q2, q3⟩, b1, b2, b3⟩ := hg
    obtain ⟨its1, rv1, p1⟩ := Inv.srcS I q1
    have hx1 : ys1[i]? = some (ys1[i]'b1) := List.getElem?_eq_getElem b1
    generalize ys1[i]'b1 = x1 at hx1
    obtain ⟨u1, hu1, ru1⟩ := rv1.get hx1
    obtain ⟨its2, rv2, p2⟩ := Inv.srcS I q2
    have hx2 : ys2[i]? = some (ys2[i]'b2) := List.getElem?_eq_getElem b2
    generalize ys2[i]'b2 = x2 at hx2
    obtain ⟨u2, hu2, ru2⟩ := rv2.get hx2
    obtain ⟨its3, rv3, p3⟩ := Inv.srcS I q3
    have hx3 : ys3[i]? = some (ys3[i]'b3) := List.getElem?_eq_getElem b3
    generalize ys3[i]'b3 = x3 at hx3
    obtain ⟨u3, hu3, ru3⟩ := rv3.get hx3
    have hzl : z < s.heap.objs.size := Heap.lt_size hz
    refine pyNext_zip3 D hz hTI hTO h1 p1 h2 p2 h3 p3 (by simpa using hu1) (by simpa using hu2) (by simpa using hu3) fun h' z' TO' n1 n2 n3 hT hsz hk => ?_
    refine ⟨_, rfl, wpAny_letOwnedTupleGo_zip (s := { s with heap := h' }) z' fun hq z2 sb => ?_⟩
    have hT2 : IsT hq s.heap.objs.size #[u1, u2, u3] := (sb.2 _ (Nat.ne_of_gt hzl)).trans hT
    have new : ObjOk X.prog X.w (upd H s.heap.objs.size (.tup [x1, x2, x3])) hq s.heap.objs.size (.tup [x1, x2, x3]) :=
      ⟨by show 3 ≤ sizeLine; decide, [u1, u2, u3], .cons ru1 (.cons ru2 (.cons ru3 (.nil))), ⟨_, hT2, rfl, _, rfl⟩⟩
    have I1 : L2.Inv X pins σ (upd H s.heap.objs.size (.tup [x1, x2, x3])) { s with heap := hq } :=
      I.turnedNew (t' := s.toks) (ch := [z, TI, TO, i1, i2, i3]) (fun c o hb q => (sb.2 c (fun q' => hb (by simp [q']))).trans (hk c o (fun q' => hb (by simp [q'])) (fun q' => hb (by simp [q'])) (fun q' => hb (by simp [q'])) (fun q' => hb (by simp [q'])) (fun q' => hb (by simp [q'])) q)) hf (Nat.le_refl _) new
    refine ⟨.ref s.heap.objs.size, _, I1, rfl, ⟨_, x1, x2, x3, rfl, I.hok.fresh (Nat.le_refl _), rfl, hx1, hx2, hx3⟩, ⟨z2, ?_, ⟨u1, u2, u3, ?_⟩, ?_, ?_, ?_⟩, fun c hcm => ?_⟩
    · exact (sb.2 _ D.TIz).trans (hk _ _ D.TIz D.TITO D.TIi1 D.TIi2 D.TIi3 hTI)
    · exact (sb.2 _ D.TOz).trans TO'
    · exact n1.at fun o q => (sb.2 _ D.i1z).trans q
    · exact n2.at fun o q => (sb.2 _ D.i2z).trans q
    · exact n3.at fun o q => (sb.2 _ D.i3z).trans q
    · have hlt : c < s.heap.objs.size := by
        have e' : c = z ∨ c = TI ∨ c = TO ∨ c = i1 ∨ c = i2 ∨ c = i3 := by simpa using hcm
        rcases e' with q | q | q | q | q | q
        · rw [q]; exact hzl
        · rw [q]; exact Heap.lt_size hTI
        · rw [q]; exact Heap.lt_size hTO
        · rw [q]; exact h1.lt
        · rw [q]; exact h2.lt
        · rw [q]; exact h3.lt
      rw [upd_ne (Nat.ne_of_lt hlt)]
      exact (hf c hcm).1
  done := by
    intro X hP hw hK hc i pins s σ H E I hf st hg
    subst hP hw hK
    obtain ⟨hz, hTI, ⟨o1, o2, o3, hTO⟩, h1, h2, h3⟩ := st
    obtain ⟨⟨q1, q2, q3⟩, hend⟩ := hg
    obtain ⟨its1, rv1, p1⟩ := Inv.srcS I q1
    have e1 := rv1.length
    obtain ⟨its2, rv2, p2⟩ := Inv.srcS I q2
    have e2 := rv2.length
    obtain ⟨its3, rv3, p3⟩ := Inv.srcS I q3
    have e3 := rv3.length
    have he : its1.toArray[i]? = none ∨ its2.toArray[i]? = none ∨ its3.toArray[i]? = none := by
      rcases hend with q | q | q
      · exact .inl (by simp; omega)
      · exact .inr (.inl (by simp; omega))
      · exact .inr (.inr (by simp; omega))
    exact pyNext_zip3_end (I.ok.hd hc) D hz hTI hTO h1 p1 h2 p2 h3 p3 he fun h' hk => ⟨rfl, I.turnedL (t' := s.toks) (ch := [z, TI, TO, i1, i2, i3]) (fun c o hb q => hk c o (fun q' => hb (by simp [q'])) (fun q' => hb (by simp [q'])) (fun q' => hb (by simp [q'])) (fun q' => hb (by simp [q'])) (fun q' => hb (by simp [q'])) q) hf⟩
  self := fun A i s Q E st h => wpAny_pyIter_zip st.1 h
def iZ3 (K : PySem.W.Frag) (ta : TA) : TI := fun σ H R => ta σ H fun vs H1 => ∃ (k1 k2 k3 : Bool) (l1 l2 l3 : Addr) (ys1 ys2 ys3 : List V), vs = [.ref l1, .ref l2, .ref l3] ∧ (SqS K H1 k1 l1 ys1 ∧ SqS K H1 k2 l2 ys2 ∧ SqS K H1 k3 l3 ys3) ∧ R (ItZ3 K k1 k2 k3 l1 l2 l3 ys1 ys2 ys3) H1
theorem pi_z3 {X : Cx} {e1 e2 e3 : Expr} {ta : TA} {p pos tpos : Pos} {elts : List Expr} {kk : Nat} (hg : Gl X "zip") (hm : X.mg "zip" = none) (ha : PA X [e1, e2, e3] ta)
    (hs : starEach [e1, e2, e3] X.env = (false, eval e1 X.env) :: starEach [e2, e3] X.env := by rfl) (hpl : (backTo pos (starEach [e2, e3] X.env)).any (·.1) = false := by rfl) :
    PI X (.Tuple elts kk tpos) (.Call (.Name "zip" p) [e1, e2, e3] [] pos) (iZ3 X.K ta) := by
  refine ⟨fun pins s σ H R I h => ?_⟩
  refine Call_ (ld_blt I hg hm PyProof.Rows.boot_zip (PyProof.Rows.callWith_type1 (thn (ha.run pos pins s σ H _ I h) fun us s1 ⟨vs, H1, I1, r1, q1⟩ => ?_) hs hpl))
  obtain ⟨k1, k2, k3, l1, l2, l3, ys1, ys2, ys3, ex, ⟨q1, q2, q3⟩, q⟩ := q1
  subst ex
  cases r1 with
  | cons r1v rr =>
    cases rr with
    | cons r2v rr =>
      cases rr with
      | cons r3v rr =>
        cases rr
        cases r1v
        cases r2v
        cases r3v
        obtain ⟨its1, rv1, p1⟩ := Inv.srcS I1 q1
        obtain ⟨its2, rv2, p2⟩ := Inv.srcS I1 q2
        obtain ⟨its3, rv3, p3⟩ := Inv.srcS I1 q3
        have fresh : ∀ c, c ∈ ([s1.heap.objs.size + 5, s1.heap.objs.size + 3, s1.heap.objs.size + 4, s1.heap.objs.size, s1.heap.objs.size + 1, s1.heap.objs.size + 2] : List Addr) → FpOk X pins H1 c := fun c hcm => by
          have e' : c = s1.heap.objs.size + 5 ∨ c = s1.heap.objs.size + 3 ∨ c = s1.heap.objs.size + 4 ∨ c = s1.heap.objs.size ∨ c = s1.heap.objs.size + 1 ∨ c = s1.heap.objs.size + 2 := by simpa using hcm
          have hle : s1.heap.objs.size ≤ c := by rcases e' with z | z | z | z | z | z <;> (rw [z]; first | exact Nat.le_refl _ | exact Nat.le_add_right _ _)
          exact I1.fpOk hle (I1.hok.fresh hle)
        refine call_zip3 p1 p2 p3 fun h' hz hTI hTO n1 n2 n3 hk => wpAny_pyIter_zip hz ?_
        have I2 : L2.Inv X pins σ H1 { s1 with heap := h' } := I1.kept (t' := s1.toks) hk
        exact ⟨s1.heap.objs.size + 5, [s1.heap.objs.size + 5, s1.heap.objs.size + 3, s1.heap.objs.size + 4, s1.heap.objs.size, s1.heap.objs.size + 1, s1.heap.objs.size + 2], _, _, H1, rfl, I2, turn_z3 (za3 p1.lt p2.lt p3.lt), ⟨hz, hTI, ⟨_, _, _, hTO⟩, n1, n2, n3⟩, fresh, q⟩
theorem WalkD.zip3 {G : GC} {F : Hp} {k1 k2 k3 : Bool} {l1 l2 l3 : Addr} {ys1 ys2 ys3 : List V} {d1 d2 d3 : List D} (hs : SqS G.K F k1 l1 ys1 ∧ SqS G.K F k2 l2 ys2 ∧ SqS G.K F k3 l3 ys3) (r1 : RepAll G F ys1 d1) (r2 : RepAll G F ys2 d2) (r3 : RepAll G F ys3 d3) : WalkD G F F (ItZ3 G.K k1 k2 k3 l1 l2 l3 ys1 ys2 ys3) (zipL3 d1 d2 d3) where
  goes := fun i H hi s => by
    obtain ⟨q1, q2, q3⟩ := hs
    have w1 := r1.length
    have w2 := r2.length
    have w3 := r3.length
    simp only [zipL3, List.length_map, List.length_zip] at hi
    exact ⟨⟨q1.keep s, q2.keep s, q3.keep s⟩, by omega, by omega, by omega⟩
  stops := fun H s => by
    obtain ⟨q1, q2, q3⟩ := hs
    have w1 := r1.length
    have w2 := r2.length
    have w3 := r3.length
    refine ⟨⟨q1.keep s, q2.keep s, q3.keep s⟩, ?_⟩
    simp only [zipL3, List.length_map, List.length_zip]
    omega
  yields := fun i F2 H2 v H3 hi s1 s2 _ ⟨T, x1, x2, x3, e1, e2, e3, g1, g2, g3⟩ => by
    subst e1 e3
    obtain ⟨c1, t1, m1⟩ := r1.getV g1
    obtain ⟨c2, t2, m2⟩ := r2.getV g2
    obtain ⟨c3, t3, m3⟩ := r3.getV g3
    refine ⟨_, .tup [c1, c2, c3], Grow.mk1 s2 e2, ?_, Rep.tup (.of upd_same) (.cons ((m1.mono s1).mono (Grow.mk1 s2 e2).f) (.cons ((m2.mono s1).mono (Grow.mk1 s2 e2).f) (.cons ((m3.mono s1).mono (Grow.mk1 s2 e2).f) (.nil))))⟩
    unfold zipL3
    have hz : (d1.zip (d2.zip d3))[i]? = some (c1, c2, c3) := List.getElem?_zip_eq_some.mpr ⟨t1, List.getElem?_zip_eq_some.mpr ⟨t2, t3⟩⟩
    rw [List.getElem?_map, hz]
    rfl
theorem ri_zip3 {X : Cx} {W : Wi} {e1 e2 e3 : Expr} {p pos tpos : Pos} {elts : List Expr} {kk : Nat} {fa : Env → Res (List D)} (hm : X.mg "zip" = none) (ha : RA X W [e1, e2, e3] fa) (hg : Gl X "zip" := by rfl)
    (hs : starEach [e1, e2, e3] X.env = (false, eval e1 X.env) :: starEach [e2, e3] X.env := by rfl) (hpl : (backTo pos (starEach [e2, e3] X.env)).any (·.1) = false := by rfl) :
    RI X W true (.Tuple elts kk tpos) (.Call (.Name "zip" p) [e1, e2, e3] [] pos) (fun r => fa r >>= zip3D) := by
  refine ⟨fun pins s σ H R I ⟨H0, F0, fp, F, r, m, o⟩ => (pi_z3 hg hm ha hs hpl).run pins s σ H R I ⟨H0, F0, fp, F, r, m, o.bind fun F' H' ds gr o2 vs rv => ?_⟩⟩
  rcases zip3D_inv ds with ⟨a, b, c, xs, ys, zs, rfl, w1, w2, w3, e⟩ | e
  · rw [e] at o2
    cases rv with
    | cons v1 rr =>
      cases rr with
      | cons v2 rr =>
        cases rr with
        | cons v3 rr =>
          cases rr
          obtain ⟨k1, l1, ys1, rfl, q1, r1⟩ := seqQ_rep (Same.refl F') v1 w1
          obtain ⟨k2, l2, ys2, rfl, q2, r2⟩ := seqQ_rep (Same.refl F') v2 w2
          obtain ⟨k3, l3, ys3, rfl, q3, r3⟩ := seqQ_rep (Same.refl F') v3 w3
          refine ⟨k1, k2, k3, l1, l2, l3, ys1, ys2, ys3, rfl, ⟨q1.keep gr.sub, q2.keep gr.sub, q3.keep gr.sub⟩, o2 F' H' (Grow.refl gr.sub) _ (WalkD.zip3 ⟨q1, q2, q3⟩ r1 r2 r3)⟩
  · rw [e] at o2; exact o2.elim
end Mir
namespace Mir
open PySem PySem.Spec PyProof.Rows L2
variable [Tn]
/-- the list that the i-th name owns, given away -/
def giveG (i : Nat) (r : Env) : Oc := match r[i]? with
  | some (.ow .flat d) => .rt d
  | _ => .bad
end Mir
namespace Mir
open PySem PySem.Spec PyProof.Rows L2
variable [Tn]
def getK : List D → List D → NestedKey → Option D
  | k :: ks, v :: vs, q => if keyOf k = some q then some v else getK ks vs q
  | _, _, _ => none
def hasK (ks : List D) (q : NestedKey) : Bool := ks.any fun k => decide (keyOf k = some q)
def repK : List D → List D → NestedKey → D → List D
  | k :: ks, v :: vs, q, x => (if keyOf k = some q then x else v) :: repK ks vs q x
  | _, _, _, _ => []
/-- in its place, or at the end -/
def setK (ks vs : List D) (kd : D) (q : NestedKey) (x : D) : List D × List D := if hasK ks q = true then (ks, repK ks vs q x) else (ks ++ [kd], vs ++ [x])
/-- a tuple as a key -/
def keyT (d : D) : Option NestedKey := match d with
  | .tup xs => match keyOf (.tup xs) with
    | some q => if q.depth ≤ 8 then some q else none
    | none => none
  | _ => none
theorem keyT_some {d : D} {q : NestedKey} (h : keyT d = some q) : (∃ xs, d = .tup xs) ∧ keyOf d = some q ∧ q.depth ≤ 8 := by
  unfold keyT at h
  split at h
  · split at h
    · rename_i e
      split at h
      · rename_i hd
        cases h
        exact ⟨⟨_, rfl⟩, e, hd⟩
      · cases h
    · cases h
  · cases h
section
variable {G : GC} {F H : Hp}
abbrev EN := NestedKey × Addr × Value
theorem getK_at {q : NestedKey} : ∀ {xs : List EN} {ws : List V} {ks vs : List D}, Vals ws (xs.map (·.2.2)) → ks.map keyOf = xs.map (fun x => some x.1) → RepAll G F ws vs →
    (getK ks vs q = none ∧ atKey xs q = none) ∨ ∃ d e v, getK ks vs q = some d ∧ atKey xs q = some e ∧ RelV v e.2 ∧ Rep G F v d
  | [], _, ks, _, wv, ke, vr => by
    cases ks with
    | nil => exact .inl ⟨by unfold getK; rfl, rfl⟩
    | cons k ks => cases ke
  | x :: xs, _, ks, _, wv, ke, vr => by
    cases ks with
    | nil => cases ke
    | cons k ks =>
      rw [List.map_cons, List.map_cons, List.cons.injEq] at ke
      cases wv with
      | cons r1 rt =>
        cases vr with
        | cons p1 pt =>
          by_cases h : x.1 = q
          · refine .inr ⟨_, x.2, _, ?_, ?_, r1, p1⟩
            · rw [getK, if_pos (by rw [ke.1, h])]
            · simp [atKey, List.find?_cons, h]
          · have e1 : ∀ v vs', getK (k :: ks) (v :: vs') q = getK ks vs' q := fun v vs' => by rw [getK, if_neg (by rw [ke.1]; intro z; exact h (Option.some.inj z))]
            have e2 : atKey (x :: xs) q = atKey xs q := by simp [atKey, List.find?_cons, h]
            rw [e1, e2]
            exact getK_at rt ke.2 pt
theorem hasK_at {q : NestedKey} : ∀ {xs : List EN} {ks : List D}, ks.map keyOf = xs.map (fun x => some x.1) → hasK ks q = (atKey xs q).isSome
  | [], ks, ke => by
    cases ks with
    | nil => rfl
    | cons k ks => cases ke
  | x :: xs, ks, ke => by
    cases ks with
    | nil => cases ke
    | cons k ks =>
      rw [List.map_cons, List.map_cons, List.cons.injEq] at ke
      have ih := hasK_at (q := q) ke.2
      unfold hasK at ih ⊢
      rw [List.any_cons, ih, ke.1]
      by_cases h : x.1 = q
      · simp [atKey, List.find?_cons, h]
      · have z : ¬ (some x.1 = some q) := fun z => h (Option.some.inj z)
        simp [atKey, List.find?_cons, h, z]
/-- a table in the heap -/
structure DR (G : GC) (F : Hp) (xs : List EN) (ws : List V) (ks vs : List D) : Prop where
  wv : Vals ws (xs.map (·.2.2))
  kr : RepAll G F (xs.map fun x => V.ref x.2.1) ks
  ke : ks.map keyOf = xs.map (fun x => some x.1)
  vr : RepAll G F ws vs
theorem DR.mono {F' : Hp} {xs : List EN} {ws : List V} {ks vs : List D} (h : DR G F xs ws ks vs) (s : Same F F') : DR G F' xs ws ks vs := ⟨h.wv, h.kr.mono s, h.ke, h.vr.mono s⟩
theorem DR.len {xs : List EN} {ws : List V} {ks vs : List D} (h : DR G F xs ws ks vs) : xs.length = ks.length := by have := congrArg List.length h.ke; simpa using this.symm
theorem DR.nil : DR G F [] [] [] [] := ⟨.nil, .nil, rfl, .nil⟩
theorem DR.tail {x : EN} {xs : List EN} {w : V} {ws : List V} {k v : D} {ks vs : List D} (h : DR G F (x :: xs) (w :: ws) (k :: ks) (v :: vs)) : DR G F xs ws ks vs ∧ RelV w x.2.2 ∧ Rep G F (.ref x.2.1) k ∧ keyOf k = some x.1 ∧ Rep G F w v := by
  obtain ⟨h1, h2, h3, h4⟩ := h
  rw [List.map_cons, List.map_cons, List.cons.injEq] at h3
  cases h1 with
  | cons a b =>
    cases h2 with
    | cons c d =>
      cases h4 with
      | cons e f => exact ⟨⟨b, d, h3.2, f⟩, a, c, h3.1, e⟩
theorem DR.cons {x : EN} {xs : List EN} {w : V} {ws : List V} {k v : D} {ks vs : List D} (h : DR G F xs ws ks vs) (a : RelV w x.2.2) (b : Rep G F (.ref x.2.1) k) (c : keyOf k = some x.1) (d : Rep G F w v) : DR G F (x :: xs) (w :: ws) (k :: ks) (v :: vs) :=
  ⟨.cons a h.wv, .cons b h.kr, by rw [List.map_cons, List.map_cons, c, h.ke], .cons d h.vr⟩
theorem DR.shape {xs : List EN} {ws : List V} {ks vs : List D} (h : DR G F xs ws ks vs) : (xs = [] ∧ ws = [] ∧ ks = [] ∧ vs = []) ∨ ∃ x xs' w ws' k ks' v vs', xs = x :: xs' ∧ ws = w :: ws' ∧ ks = k :: ks' ∧ vs = v :: vs' := by
  obtain ⟨h1, h2, h3, h4⟩ := h
  cases xs with
  | nil => cases h1; cases h2; cases h4; exact .inl ⟨rfl, rfl, rfl, rfl⟩
  | cons x xs =>
    cases h1
    cases h2
    cases h4
    exact .inr ⟨_, _, _, _, _, _, _, _, rfl, rfl, rfl, rfl⟩
theorem DR.snoc {x : EN} {w : V} {k v : D} (a : RelV w x.2.2) (b : Rep G F (.ref x.2.1) k) (c : keyOf k = some x.1) (d : Rep G F w v) : ∀ {xs : List EN} {ws : List V} {ks vs : List D}, DR G F xs ws ks vs → DR G F (xs ++ [x]) (ws ++ [w]) (ks ++ [k]) (vs ++ [v])
  | xs, ws, ks, vs, h => by
    rcases h.shape with ⟨rfl, rfl, rfl, rfl⟩ | ⟨x', xs', w', ws', k', ks', v', vs', rfl, rfl, rfl, rfl⟩
    · exact DR.nil.cons a b c d
    · obtain ⟨t, e1, e2, e3, e4⟩ := h.tail
      exact (DR.snoc a b c d t).cons e1 e2 e3 e4
theorem DR.rep {q : NestedKey} {u : Value} {w : V} {d : D} (a : RelV w u) (b : Rep G F w d) : ∀ {xs : List EN} {ws : List V} {ks vs : List D}, DR G F xs ws ks vs → ∃ ws', DR G F (xs.map (putAt q u)) ws' ks (repK ks vs q d)
  | xs, ws, ks, vs, h => by
    rcases h.shape with ⟨rfl, rfl, rfl, rfl⟩ | ⟨x', xs', w', ws', k', ks', v', vs', rfl, rfl, rfl, rfl⟩
    · exact ⟨[], by rw [repK]; exact DR.nil; all_goals simp⟩
    · obtain ⟨t, e1, e2, e3, e4⟩ := h.tail
      obtain ⟨ws2, t2⟩ := DR.rep (q := q) a b t
      rw [repK, List.map_cons]
      by_cases hq : x'.1 = q
      · rw [if_pos (by rw [e3, hq])]
        have e : putAt q u x' = (x'.1, x'.2.1, u) := if_pos hq
        rw [e]
        exact ⟨w :: ws2, t2.cons a e2 e3 b⟩
      · rw [if_neg (by rw [e3]; intro z; exact hq (Option.some.inj z))]
        have e : putAt q u x' = x' := if_neg hq
        rw [e]
        exact ⟨w' :: ws2, t2.cons e1 e2 e3 e4⟩
theorem DR.set {q : NestedKey} {u : Value} {w : V} {b : Addr} {kd d : D} {xs : List EN} {ws : List V} {ks vs : List D} (h : DR G F xs ws ks vs) (a : RelV w u) (rb : Rep G F (.ref b) kd) (hk : keyOf kd = some q) (rw' : Rep G F w d) :
    ∃ ws', DR G F (storedH xs q b u) ws' (setK ks vs kd q d).1 (setK ks vs kd q d).2 := by
  unfold storedH setK
  rw [hasK_at h.ke]
  by_cases e : (atKey xs q).isSome = true
  · rw [if_pos e, if_pos e]
    exact DR.rep a rw' h
  · rw [if_neg e, if_neg e]
    exact ⟨_, DR.snoc (x := (q, b, u)) a rb hk rw' h⟩
theorem RdD.dr {v : V} {ks vs : List D} (s : Same F H) (h : RdD G F H v (.dic ks vs)) : ∃ a o xs ws, v = .ref a ∧ H a = some (.ext (isObj' a o)) ∧ (a == sysModules) = false ∧ DicO G o xs ∧ DR G F xs ws ks vs := by
  obtain ⟨a, o, xs, ws, rfl, h1, h2, h3, h4, h5, h6, h7⟩ := h.dic s
  exact ⟨a, o, xs, ws, rfl, h1, h2, h3, h4, h5, h6, h7⟩
theorem Own.dr {a : Addr} {o : Obj} {xs : List EN} {ws : List V} {ks vs : List D} (e : H a = some (.ext (isObj' a o))) (f : F a = none) (n : (a == sysModules) = false) (d : DicO G o xs) (r : DR G F xs ws ks vs) : Own G F H .flat (.ref a) (.dic ks vs) [a] :=
  .dic rfl e f n d r.wv r.kr r.ke (OwnAll.of_rep r.vr) (by simp)
end
section
variable {X : Cx} {pins : List (Addr × Obj)} {σ : L2.St} {H F : Hp} {s : Shared} {k : Nat}
theorem room8 (hr : Room k X.A) : (nestedKind X.prog X.w).room X.A.in1 := by
  have := hr.un
  show X.A.units + 1 + 8 < cLine
  omega
theorem dr_of (I : L2.Inv X pins σ H s) (sF : Same F H) {p : Addr} {o : Obj} {xs : List EN} {ws : List V} {ks vs : List D} (hp : H p = some (.ext (isObj' p o))) (dd : DicO (gOf X) o xs) (h : DR (gOf X) F xs ws ks vs) : s.heap.DictOfH (nestedKind X.prog X.w) p xs :=
  dic_of I sF hp dd h.kr h.ke
theorem key_is (I : L2.Inv X pins σ H s) (sF : Same F H) {b : Addr} {kd : D} {q : NestedKey} (r : Rep (gOf X) F (.ref b) kd) (h : keyT kd = some q) : (nestedKind X.prog X.w).is s.heap q b :=
  ⟨nested_of I sF r (keyT_some h).2.1 rfl, (keyT_some h).2.2⟩
/-- what stands behind a change -/
theorem dicO_of {p : Addr} {h' : Heap} {xs : List EN} (h : h'.DictOfH (nestedKind X.prog X.w) p xs) (hz : xs.length ≤ sizeLine) : ∃ o, h'.get? p = some o ∧ DicO (gOf X) o xs := by
  obtain ⟨o, es, ep, h1, h2, h3, h4, h5, h6⟩ := h
  exact ⟨o, h1, h2, ⟨es, ep, h3, h4⟩, h6, fun x hx => (h5 x hx).2, hz⟩
theorem ext_ok {p : Addr} {o : Obj} {h' : Heap} {P : Program} {w : World} {H' : Hp} (e : h'.get? p = some o) : ObjOk P w H' h' p (.ext (isObj' p o)) := ⟨e, ⟨o, e⟩, fun _ _ q k => k _ q⟩
theorem dicO_nil {o : Obj} (h : o = { cls := .type "dict", data := .dict #[] }) {G : GC} : DicO G o [] := by
  subst h
  exact ⟨⟨rfl, rfl, rfl⟩, ⟨#[], 0, rfl, rfl⟩, List.nodup_nil, (fun _ z => nomatch z), Nat.zero_le _⟩
theorem re_dic0 {W : Wi} {pos : Pos} : RE X W (.O .flat) (.Dict [] [] pos) (fun _ => .ok (.dic [] [])) := ⟨fun pins s σ H Q I ⟨H0, F0, fp, F, r, m, o⟩ => by
  have hn : (s.heap.objs.size == sysModules) = false := beq_eq_false_iff_ne.mpr (Ne.symm (Nat.ne_of_lt I.big))
  have hf := I.hok.fresh (Nat.le_refl _)
  refine wpAny_Dict_empty ⟨.ref s.heap.objs.size, _, I.laid (a := s.heap.objs.size) (o := .ext (isObj' s.heap.objs.size { cls := .type "dict", data := .dict #[] })) (t' := s.toks) (fun _ _ q => Heap.get?_push_of_some _ q) (Nat.le_refl _) (ext_ok (Heap.get?_push_size _ rfl)), rfl, ?_⟩
  exact o F _ (Grow.own m.sub hf) _ ⟨[_], Own.dr upd_same (m.sub.free hf) hn (dicO_nil rfl) DR.nil, fun a ha => by rw [List.mem_singleton.mp ha]; exact hf⟩⟩
end
def ixD (a i : D) : Res D := match a with
  | .dic ks vs => match keyT i with
    | some q => match getK ks vs q with
      | some d => .ok d
      | none => .bad
    | none => .bad
  | a => ixS a i
def notInD (x xs : D) : Res D := match xs with
  | .dic ks _ => match keyT x with
    | some q => .ok (.bl (!hasK ks q))
    | none => .bad
  | xs => notInS x xs
theorem ne_ixD : NoEr2 ixD := fun a b e z => by
  unfold ixD at z
  split at z
  · split at z
    · split at z <;> cases z
    · cases z
  · exact ne_ix _ _ _ z
theorem ne_notInD : NoEr2 notInD := fun a b e z => by
  unfold notInD at z
  split at z
  · split at z <;> cases z
  · exact ne_notIn _ _ _ z
section
variable {X : Cx} {W : Wi} {k : Nat} {a b c e : Expr} {fa fb fe : Env → Res D} {pos : Pos}
/-- a dict and a key -/
def rDK (X : Cx) (P : List EN → NestedKey → Hp → Prop) : V → V → Hp → Prop := fun x y H => ∃ (F : Hp) (p b : Addr) (o : Obj) (xs : List EN) (ws : List V) (ks vs : List D) (kd : D) (q : NestedKey), x = .ref p ∧ y = .ref b ∧ Same F H ∧ H p = some (.ext (isObj' p o)) ∧ (p == sysModules) = false ∧
  DicO (gOf X) o xs ∧ DR (gOf X) F xs ws ks vs ∧ Rep (gOf X) F (.ref b) kd ∧ keyT kd = some q ∧ P xs q H
theorem ix_dic (hr : Room k X.A) : IxR X (fun x y H Q => rDK X (fun xs q H => ∃ e v, atKey xs q = some e ∧ RelV v e.2 ∧ Q v H) x y H) := by
  intro value slice pins s σ H x y u1 u2 Q I r1 r2 h hs
  obtain ⟨F, p, b, o, xs, ws, ks, vs, kd, q, rfl, rfl, sF, hp, hn, dd, dr, rk, hk, e, v, he, rv, hq⟩ := h
  cases r1
  cases r2
  exact tail_any (dr_of I sF hp dd dr).typeIs slot_dict_getitem.lookup (wpAny_getItem_heap (room8 hr) (key_is I sF rk hk) (dr_of I sF hp dd dr) he ⟨v, H, I.tok _, rv, hq⟩) hs
theorem op_notInDic (hr : Room k X.A) : OpR X (compareOp .NotIn) (fun y x H Q => rDK X (fun xs q H => Q (.bl (!(atKey xs q).isSome)) H) x y H) := by
  intro pins s σ H y x u2 u1 Q I r2 r1 h
  obtain ⟨F, p, b, o, xs, ws, ks, vs, kd, q, rfl, rfl, sF, hp, hn, dd, dr, rk, hk, hq⟩ := h
  cases r1
  cases r2
  exact wpAny_notIn_heap (room8 hr) (key_is I sF rk hk) hn (dr_of I sF hp dd dr) ⟨.bl _, H, I.tok _, rfl, hq⟩
theorem key_ref {G : GC} {F H : Hp} {y : V} {kd : D} {q : NestedKey} (h : RdD G F H y kd) (hk : keyT kd = some q) : ∃ b, y = .ref b ∧ Rep G F (.ref b) kd := by
  obtain ⟨⟨xs, rfl⟩, _⟩ := keyT_some hk
  have z := h.tupS
  cases z with
  | tup h1 h2 => exact ⟨_, rfl, .tup h1 h2⟩
theorem ixD_ok : OpD (gOf X) (fun x y H Q => rIx X.K x y H Q ∨ rDK X (fun xs q H => ∃ e v, atKey xs q = some e ∧ RelV v e.2 ∧ Q v H) x y H) .R .R .S ixD := fun F H x y a b d Q Ha Hb s ka kb e k => by
  unfold ixD at e
  split at e
  · rename_i ks vs
    split at e
    · rename_i q hq
      split at e <;> cases e
      rename_i hg
      obtain ⟨p, o, xs, ws, rfl, h1, h2, h3, h4⟩ := RdD.dr s (show RdD (gOf X) F H x _ from ka)
      obtain ⟨b', rfl, rb⟩ := key_ref (show RdD (gOf X) F H y _ from kb) hq
      rcases getK_at (q := q) h4.wv h4.ke h4.vr with ⟨z, _⟩ | ⟨d', e', v, z1, z2, z3, z4⟩
      · rw [hg] at z; cases z
      · rw [hg] at z1
        cases z1
        exact .inr ⟨F, p, b', o, xs, ws, ks, vs, _, q, rfl, rfl, s, h1, h2, h3, h4, rb, hq, e', v, z2, z3, k v F H (Grow.refl s) z4⟩
    · cases e
  · exact .inl (ix_ok F H x y _ b d Q Ha Hb s ka kb e k)
theorem re_ix (hr : Room k X.A) (ha : RE X W .R a fa) (hb : RE X W .R b fb) (hs : PlainIx b := by intro _ _; rfl) : RE X W .S (.Subscript a b pos) (fun r => fa r >>= fun x => fb r >>= fun y => ixD x y) := (pe_ix (ix_seq.or (ix_dic hr)) ha hb hs).imp (t_op ixD_ok ne_ixD)
theorem notInD_ok : OpD (gOf X) (fun y x H Q => rNotInD X.K y x H Q ∨ rDK X (fun xs q H => Q (.bl (!(atKey xs q).isSome)) H) x y H) .R .R .S notInD := fun F H y x b a d Q Ha Hb s kb ka e k => by
  unfold notInD at e
  split at e
  · rename_i ks vs
    split at e <;> cases e
    rename_i q hq
    obtain ⟨p, o, xs, ws, rfl, h1, h2, h3, h4⟩ := RdD.dr s (show RdD (gOf X) F H x _ from ka)
    obtain ⟨b', rfl, rb⟩ := key_ref (show RdD (gOf X) F H y _ from kb) hq
    exact .inr ⟨F, p, b', o, xs, ws, ks, vs, _, q, rfl, rfl, s, h1, h2, h3, h4, rb, hq, by show Q _ H; rw [← hasK_at h4.ke]; exact k _ F H (Grow.refl s) (Rep.bl _)⟩
  · exact .inl (notIn_ok F H y x b _ d Q Ha Hb s kb ka e k)
theorem c_notIn (hr : Room k X.A) : Cmp X .NotIn notInD := ⟨⟨_, (op_notInD (units65 hr)).or (op_notInDic hr), notInD_ok⟩, ne_notInD⟩
end
/-- the thing that the i-th name owns -/
def ownF (i : Nat) (r : Env) : Option D := match r[i]? with
  | some (.ow .flat d) => some d
  | _ => none
theorem ownF_some {i : Nat} {r : Env} {d : D} (h : ownF i r = some d) : r[i]? = some (.ow .flat d) := by
  unfold ownF at h
  split at h
  · rename_i e; cases h; exact e
  · cases h
/-- what stands behind d[i] = v -/
def setD (d i v : D) : Res D := match d with
  | .dic ks vs => match keyT i with
    | some q => if ks.length < lim then .ok (.dic (setK ks vs i q v).1 (setK ks vs i q v).2) else .bad
    | none => .bad
  | .lst ds => match i with
    | .int n => match ixN ds.length n with
      | some j => .ok (.lst (ds.set j v))
      | none => .bad
    | _ => .bad
  | _ => .bad
def setG (i : Nat) (fv fi : Env → Res D) (r : Env) : Oc := lift (fv r) r fun v => match ownF i r with
  | some d => lift (fi r) r fun n => match setD d n v with
    | .ok d' => .nx (r.set i (.ow .flat d'))
    | _ => .bad
  | none => .bad
section
variable {G : GC} {J : L2.St → Prop} {H0 F0 F H : Hp} {fp : Nat → List Addr} {σ : L2.St} {r : Env}
theorem MS.dic (m : MS G J H0 F0 fp F σ H r) {i : Nat} {ks vs : List D} (h : r[i]? = some (.ow .flat (.dic ks vs))) : ∃ a o xs ws, σ[i]? = some (some (.ref a)) ∧ H a = some (.ext (isObj' a o)) ∧ (a == sysModules) = false ∧ DicO G o xs ∧ DR G F xs ws ks vs ∧ fp i = [a] := by
  obtain ⟨⟨v, h1, h2⟩, _⟩ := m.ow i _ _ h
  generalize fp i = A at h2
  cases h2 with
  | dic _ e _ z1 z2 z3 z4 z5 ra na =>
    obtain ⟨rfl, rr⟩ := ra.to_rep
    exact ⟨_, _, _, _, h1, e, z1, z2, ⟨z3, z4, z5, rr⟩, rfl⟩
theorem MS.dicUpd (m : MS G J H0 F0 fp F σ H r) {i : Nat} {d : D} {a : Addr} {o : Obj} {xs : List EN} {ws : List V} {ks vs : List D} (h : r[i]? = some (.ow .flat d)) (hv : σ[i]? = some (some (.ref a))) (hf : fp i = [a]) (hn : (a == sysModules) = false) (dd : DicO G o xs) (dr : DR G F xs ws ks vs) :
    ∃ fp', MS G J H0 F0 fp' F σ (upd H a (.ext (isObj' a o))) (r.set i (.ow .flat (.dic ks vs))) := by
  obtain ⟨⟨v, h1, h2⟩, _⟩ := m.ow i _ _ h
  have fa := (h2.there a (by rw [hf]; simp)).1
  exact m.write (A := [a]) h hv (by rw [hf]; simp) (Own.dr upd_same fa hn dd dr) fun b hb => .inl (by rw [hf]; exact hb)
end
section
variable {X : Cx} {W : Wi} {k : Nat} {kk : Kd} {e iv : Expr} {fe fi : Env → Res D} {pos ps p2 apos cpos : Pos} {x : Str}
def rSetDic (X : Cx) : TSet := fun ov i v H Q => rDK X (fun xs q H => xs.length ≤ lim ∧ ∀ p b o' u, ov = .ref p → i = .ref b → RelV v u → DicO (gOf X) o' (storedH xs q b u) → Q (upd H p (.ext (isObj' p o')))) ov i H
theorem storedH_len (xs : List EN) (q : NestedKey) (b : Addr) (u : Value) : (storedH xs q b u).length ≤ xs.length + 1 := by
  unfold storedH
  split
  · simp
  · simp
theorem set_dic (hr : Room k X.A) : PSet X (rSetDic X) := by
  intro pins s σ H ov i v uo ui u Q I ro ri rv h
  obtain ⟨F, p, b, o, xs, ws, ks, vs, kd, q, rfl, rfl, sF, hp, hn, dd, dr, rk, hk, hl, hq⟩ := h
  cases ro
  cases ri
  refine wpAny_setItem_heap (hsz := dd.sz) (room8 hr) (key_is I sF rk hk) (dr_of I sF hp dd dr) fun h' hm' hs => ?_
  have hz : (storedH xs q b u).length ≤ sizeLine := by
    have h1 := storedH_len xs q b u
    have h2 : lim + 1 ≤ sizeLine := by rw [sizeLine_eq]; decide
    omega
  obtain ⟨o', e1, e2⟩ := dicO_of hm' hz
  exact ⟨_, d_write I (by rw [hp]; exact True.intro) hs ⟨o', e1⟩ (ext_ok e1), hq p b o' u rfl rfl rv e2⟩
theorem PSet.or {t t' : TSet} (h : PSet X t) (h' : PSet X t') : PSet X (fun o i v H Q => t o i v H Q ∨ t' o i v H Q) := by
  intro pins s σ H ov i v uo ui u Q I ro ri rv q
  rcases q with q | q
  · exact h pins s σ H ov i v uo ui u Q I ro ri rv q
  · exact h' pins s σ H ov i v uo ui u Q I ro ri rv q
theorem rs_setItem (i : Nat) (hr : Room k X.A) (he : RE X W .S e fe) (hi : RE X W .R iv fi) (hN : X.N[i]? = some x := by rfl) (hv : Vis X.env.scope x := by first | exact Or.inl rfl | exact Or.inr (Or.inl rfl) | exact Or.inr (Or.inr rfl)) (hd : (x == ("__debug__" : Str)) = false := by decide)
    (hcd : (x == ("__classdict__" : Str)) = false := by decide) (ha : ∀ v, assign (.Subscript (.Name x ps) iv p2) X.env v = (do
      let ov ← holding [v] (eval (.Name x ps) X.env)
      let iv ← holding [v, ov] (eval iv X.env)
      standAt p2
      holding [v, ov, iv] (setItem ov iv v)
      release [v, ov, iv] []) := by intro _; rfl)
    (hs : swapsWithSole [.Subscript (.Name x ps) iv p2] e pos.line X.env = pure false := by rfl) (hw : swappedStores [.Subscript (.Name x ps) iv p2] e X.env = pure none := by rfl) (h1 : (assignEach [.Subscript (.Name x ps) iv p2] X.env).map (·.2) = [assign (.Subscript (.Name x ps) iv p2) X.env] := by rfl) :
    RS X W kk (.Assign [.Subscript (.Name x ps) iv p2] e pos) (setG i fe fi) :=
  (ps_asg he (pg_sub (pe_var hN hv hd hcd) hi (PSet.or set_list (set_dic hr)) ha) hs hw h1).imp fun D σ H ⟨H0, F0, fp, F, r, m, o⟩ => ⟨H0, F0, fp, F, r, m, OutS.lift m o fun F' H' d gr o' v kv => by
    split at o'
    · rename_i dd ho
      have hi := ownF_some ho
      have m' := m.grow gr
      cases dd with
      | lst ds =>
        obtain ⟨a, vs, h1, h2, h3, h4⟩ := m'.lst hi
        refine ⟨.ref a, h1, H0, F0, fp, F', r, m', OutS.lift m' o' fun F2 H2 n g2 o2 u ku => ?_⟩
        cases n with
        | int n =>
          unfold setD at o2
          simp only at o2
          split at o2
          · rename_i z hz
            split at hz
            · rename_i j hj
              cases hz
              obtain ⟨fp', m2⟩ := (m'.grow g2).lstUpd hi h1 h4 ((h3.mono g2.f).set (Mir.Rep.mono g2.f kv) j)
              exact .inl ⟨a, vs, n, j, rfl, RdD.int ku, g2.h.at _ _ h2, by rw [h3.length]; exact hj, o2 fp' F2 σ _ (Same.refl _) m2⟩
            · cases hz
          · exact o2.elim
        | _ => exact o2.elim
      | dic ks vs =>
        obtain ⟨a, ob, xs, ws, h1, h2, h3, h4, h5, h6⟩ := m'.dic hi
        refine ⟨.ref a, h1, H0, F0, fp, F', r, m', OutS.lift m' o' fun F2 H2 n g2 o2 u ku => ?_⟩
        unfold setD at o2
        simp only at o2
        split at o2
        · rename_i z hz
          split at hz
          · rename_i q hq
            split at hz <;> cases hz
            rename_i hl
            obtain ⟨b, rfl, rb⟩ := key_ref (show RdD (gOf X) F2 H2 u _ from ku) hq
            have h5' := h5.mono g2.f
            refine .inr ⟨F2, a, b, ob, xs, ws, ks, vs, n, q, rfl, rfl, g2.sub, g2.h.at _ _ h2, h3, h4, h5', rb, hq, by rw [h5.len]; exact Nat.le_of_lt hl, fun p b' ob' uu ep eb ru dd' => ?_⟩
            cases ep
            cases eb
            obtain ⟨ws', dr'⟩ := h5'.set ru rb (keyT_some hq).2.1 (Mir.Rep.mono g2.f kv)
            obtain ⟨fp', m2⟩ := (m'.grow g2).dicUpd hi h1 h6 h3 dd' dr'
            exact o2 fp' F2 σ _ (Same.refl _) m2
          · cases hz
        · exact o2.elim
      | _ =>
        obtain ⟨⟨v', h1, _⟩, _⟩ := m'.ow i _ _ hi
        refine ⟨v', h1, H0, F0, fp, F', r, m', OutS.lift m' o' fun F2 H2 n g2 o2 u ku => ?_⟩
        exact o2.elim
    · exact o'.elim⟩
end
end Mir
namespace Mir
open PySem PySem.Spec PyProof.Rows L2
variable [Tn]
section
variable {prog : Program} {w : World} {K : Type} [DecidableEq K] {knd : HeapKind prog w K} {A : Around} {E : Value → Shared → Prop} {s : Shared}
def EqT (prog : Program) (w : World) (A : Around) (s : Shared) (y x : Value) (b : Bool) : Prop := ∀ (E : Value → Shared → Prop) (Q : Bool → Shared → Prop), Q b s → wpAny (model prog w) A (eqBool y x) Q E s
inductive HitsH (prog : Program) (w : World) (A : Around) (s : Shared) (ys : List (K × Addr × Value)) : List (K × Addr × Value) → Bool → Prop
  | nil : HitsH prog w A s ys [] true
  | miss {x : K × Addr × Value} {r : List (K × Addr × Value)} : atKey ys x.1 = none → HitsH prog w A s ys (x :: r) false
  | hit {x : K × Addr × Value} {e : Addr × Value} {r : List (K × Addr × Value)} {b : Bool} : atKey ys x.1 = some e → EqT prog w A s x.2.2 e.2 true → HitsH prog w A s ys r b → HitsH prog w A s ys (x :: r) b
  | not {x : K × Addr × Value} {e : Addr × Value} {r : List (K × Addr × Value)} : atKey ys x.1 = some e → EqT prog w A s x.2.2 e.2 false → HitsH prog w A s ys (x :: r) false
theorem atKey_of {xs : List (K × Addr × Value)} (hn : (xs.map (·.1)).Nodup) {j : Nat} {k : K} {p : Addr × Value} (h : xs[j]? = some (k, p)) : atKey xs k = some p := by
  induction xs generalizing j with
  | nil => simp at h
  | cons x xs ih =>
    rw [List.map_cons, List.nodup_cons] at hn
    cases j with
    | zero =>
      simp at h
      subst h
      simp [atKey, List.find?_cons]
    | succ j =>
      have h' : xs[j]? = some (k, p) := by simpa using h
      have ne : x.1 ≠ k := fun e => hn.1 (by rw [e]; exact List.mem_map.mpr ⟨(k, p), List.mem_of_getElem? h', rfl⟩)
      have := ih hn.2 h'
      simpa [atKey, List.find?_cons, ne] using this
theorem atKey_no {xs : List (K × Addr × Value)} {k : K} (h : ∀ (j : Nat) (p : Addr × Value), xs[j]? ≠ some (k, p)) : atKey xs k = none := by
  induction xs with
  | nil => rfl
  | cons x xs ih =>
    have ne : x.1 ≠ k := fun e => h 0 x.2 (by simp [← e])
    have := ih fun j p z => h (j + 1) p (by simpa using z)
    simpa [atKey, List.find?_cons, ne] using this
theorem samePairsH {nm : String} {a b : Addr} {xs ys : List (K × Addr × Value)} {r : Bool} {Q : Bool → Shared → Prop} (hu : knd.room A) (ha : (a == sysModules) = false) (hb : (b == sysModules) = false)
    (da : s.heap.DictOfH knd a xs) (db : s.heap.DictOfH knd b ys) (hits : xs.length = ys.length → HitsH prog w A s ys xs r) (h : Q (xs.length == ys.length && r) s) :
    wpAny (model prog w) A (Builtin.Dict.samePairs nm a b) Q E s := by
  obtain ⟨oa, es, ep, hoa, _, hda, hea, hia, hna⟩ := da
  obtain ⟨ob, fs, eq, hob, _, hdb, heb, hib, hnb⟩ := db
  have hla := size_of_entries hea
  have hlb := size_of_entries heb
  rw [← hla, ← hlb] at h hits
  unfold Builtin.Dict.samePairs Builtin.Dict.showsAll
  rw [if_neg (show ¬ (a == sysModules) = true by rw [ha]; decide), if_neg (show ¬ (b == sysModules) = true by rw [hb]; decide)]
  refine wpAny_bind (wpAny_pure (wpAny_bind (wpAny_pure (wpAny_bind (wpAny_dictEntries hoa hda ?_)))))
  dsimp only
  refine wpAny_bind (wpAny_dictEntries hob hdb ?_)
  by_cases hsz : es.size = fs.size
  case neg =>
    rw [if_pos (by simpa using hsz)]
    rw [beq_eq_false_iff_ne.mpr hsz, Bool.false_and] at h
    exact wpAny_bind (wpAny_rule (wpAny_pure h))
  case pos =>
    have h' : Q r s := by simpa [hsz] using h
    have hh := hits hsz
    rw [if_neg (by rw [hsz]; simp)]
    refine wpAny_bind (wpAny_dictEpoch hoa hda (wpAny_bind ?_))
    rw [Std.Legacy.Range.forIn_eq_forIn_range']; simp only [Std.Legacy.Range.size, Nat.sub_zero, Nat.add_sub_cancel, Nat.div_one]
    refine wpAny_forIn_list _ (fun rest q t => t = s ∧ q = (none, ()) ∧ ∃ i, rest = List.range' i (es.size - i) ∧ i ≤ es.size ∧ HitsH prog w A s ys (xs.drop i) r) _ ?_ ?_ _ _ ⟨rfl, rfl, 0, by simp, Nat.zero_le _, hh⟩
    · rintro j rest q t ⟨rfl, rfl, i, hr, hi, hp⟩
      have hlt : i < es.size := by
        rcases Nat.lt_or_ge i es.size with z | z
        · exact z
        · rw [Nat.sub_eq_zero_of_le z] at hr; simp at hr
      obtain ⟨rfl, hrest⟩ : j = i ∧ rest = List.range' (i + 1) (es.size - (i + 1)) := by
        rw [show es.size - i = (es.size - (i + 1)) + 1 by omega, List.range'_succ] at hr
        injection hr with h1 h2
        exact ⟨h1, h2⟩
      have hlx : j < xs.length := by rw [← hla]; exact hlt
      have hej : es[j]? = some (entryOfKey knd xs[j]) := by rw [entry_at hea j, List.getElem?_eq_getElem hlx]; rfl
      have hmem : xs[j] ∈ xs := List.getElem_mem hlx
      refine wpAny_bind (wpAny_dictEntries hoa hda ?_)
      rw [hej]
      rw [List.drop_eq_getElem_cons hlx] at hp
      generalize hx : xs[j] = x at hp hmem
      show wpAny _ _ (holding [Value.ref x.2.1, x.2.2] _ >>= _) _ _ _
      refine wpAny_bind (wpAny_holding (wpAny_bind (wpAny_dictFind_heap hu (hia x hmem) hob hdb heb hib hnb (fun no => ?_) fun jj p hp' => ?_)))
      · have hn := atKey_no no
        have er : r = false := by
          cases hp with
          | miss => rfl
          | hit z => rw [hn] at z; cases z
          | not z => rfl
        rw [er] at h'
        refine wpAny_pure ?_
        show wpAny _ _ (if (!false) = true then _ else _) _ _ _
        rw [if_pos (by decide)]
        exact wpAny_pure (wpAny_pure h')
      · have hs := atKey_of hnb hp'
        have hf : fs[jj]? = some (entryOfKey knd (x.1, p)) := by rw [entry_at heb jj, hp']; rfl
        refine wpAny_bind (wpAny_dictEntries hob hdb ?_)
        rw [hf]
        cases hp with
        | miss z => rw [hs] at z; cases z
        | not z hq =>
          rw [hs] at z
          cases z
          refine wpAny_holding (hq _ _ ?_)
          show wpAny _ _ (if (!false) = true then _ else _) _ _ _
          rw [if_pos (by decide)]
          exact wpAny_pure (wpAny_pure h')
        | hit z hq ht =>
          rw [hs] at z
          cases z
          refine wpAny_holding (hq _ _ ?_)
          show wpAny _ _ (if (!true) = true then _ else _) _ _ _
          rw [if_neg (by decide)]
          refine wpAny_bind (wpAny_dictEpoch hoa hda ?_)
          rw [if_neg (by simp)]
          exact wpAny_pure ⟨rfl, rfl, j + 1, hrest, hlt, ht⟩
    · rintro q t ⟨rfl, rfl, i, hr, hi, hp⟩
      have hin : i = es.size := by
        rcases Nat.lt_or_ge i es.size with z | z
        · rw [show es.size - i = (es.size - (i + 1)) + 1 by omega, List.range'_succ] at hr; exact nomatch hr
        · exact Nat.le_antisymm hi z
      refine wpAny_pure ?_
      rw [hin, hla, List.drop_length] at hp
      cases hp
      exact h'
theorem cmpH {op : CmpOp} {b : Bool} {a c : Addr} {xs ys : List (K × Addr × Value)} {r : Bool} {Q : Value → Shared → Prop} (ho : (op = .Eq ∧ b = true) ∨ (op = .NotEq ∧ b = false)) (hu : knd.room A.in1) (hv : A.units < cLine) (ha : (a == sysModules) = false) (hc : (c == sysModules) = false)
    (da : s.heap.DictOfH knd a xs) (dc : s.heap.DictOfH knd c ys) (hits : xs.length = ys.length → HitsH prog w A.in1 s ys xs r) (h : Q (.bool (if b = true then (xs.length == ys.length && r) else !(xs.length == ys.length && r))) s) :
    wpAny (model prog w) A (compareOp op (.ref a) (.ref c)) Q E s := by
  rcases ho with ⟨rfl, rfl⟩ | ⟨rfl, rfl⟩
  · refine wpAny_richCompare_same_room (op := .Eq) da.typeIs dc.typeIs PySem.F.slot_dict_eq (wpAny_call_entry PySem.F.slot_dict_eq da.typeIs PySem.F.entry_dict_eq ?_ (PySem.F.args_dict_eq_2 _ _)) hv
    show wpAny _ _ (Builtin.Dict.dictSlotArgs "__eq__" ⟨[.ref a, .ref c], []⟩ >>= _) _ _ s
    unfold Builtin.Dict.dictSlotArgs
    refine wpAny_bind (wpAny_bind (wpAny_notOrdered_dict da.typeIs ?_))
    show wpAny _ _ (pure (Value.ref a, Value.ref c)) _ _ s
    refine wpAny_pure (wpAny_bind (wpAny_isInstance (T := "dict") dc.typeIs PySem.F.sub_dict_dict ?_))
    simp only [Bool.not_true, Bool.false_eq_true, if_false]; refine wpAny_bind (wpAny_pure (wpAny_bind (wpAny_pure (wpAny_bind (samePairsH hu ha hc da dc hits ?_)))))
    exact wpAny_pure ⟨_, rfl, ⟨(fun x => nomatch x), by simpa using h⟩⟩
  · refine wpAny_richCompare_same_room (op := .NotEq) da.typeIs dc.typeIs PySem.F.slot_dict_ne (wpAny_call_entry PySem.F.slot_dict_ne da.typeIs PySem.F.entry_dict_ne ?_ (PySem.F.args_dict_ne_2 _ _)) hv
    show wpAny _ _ (Builtin.Dict.dictSlotArgs "__ne__" ⟨[.ref a, .ref c], []⟩ >>= _) _ _ s
    unfold Builtin.Dict.dictSlotArgs
    refine wpAny_bind (wpAny_bind (wpAny_notOrdered_dict da.typeIs ?_))
    show wpAny _ _ (pure (Value.ref a, Value.ref c)) _ _ s
    refine wpAny_pure (wpAny_bind (wpAny_isInstance (T := "dict") dc.typeIs PySem.F.sub_dict_dict ?_))
    simp only [Bool.not_true, Bool.false_eq_true, if_false]; refine wpAny_bind (wpAny_pure (wpAny_bind (wpAny_pure (wpAny_bind (samePairsH hu ha hc da dc hits ?_)))))
    exact wpAny_pure ⟨_, rfl, ⟨(fun x => nomatch x), by simpa using h⟩⟩
end
/-- whether the values stand in the other table, too -/
def sameK : List D → List D → List D → List D → Option Bool
  | k :: ks, v :: vs, ks2, vs2 => match keyOf k with
    | some q => match getK ks2 vs2 q with
      | none => some false
      | some u => match eqS v u with
        | .ok (.bl true) => sameK ks vs ks2 vs2
        | .ok (.bl false) => some false
        | _ => none
    | none => none
  | _, _, _, _ => some true
def sameD (ks vs ks2 vs2 : List D) : Option Bool := if ks.length = ks2.length then sameK ks vs ks2 vs2 else some false
def eqD (a b : D) : Res D := match a, b with
  | .dic ks vs, .dic ks2 vs2 => match sameD ks vs ks2 vs2 with
    | some b => .ok (.bl b)
    | none => .bad
  | a, b => eqS a b
def neD (a b : D) : Res D := match a, b with
  | .dic ks vs, .dic ks2 vs2 => match sameD ks vs ks2 vs2 with
    | some b => .ok (.bl (!b))
    | none => .bad
  | a, b => neS a b
theorem ne_eqD : NoEr2 eqD := fun a b e z => by
  unfold eqD at z
  split at z
  · split at z <;> cases z
  · exact ne_eq _ _ _ z
theorem ne_neD : NoEr2 neD := fun a b e z => by
  unfold neD at z
  split at z
  · split at z <;> cases z
  · exact ne_ne _ _ _ z
section
variable {X : Cx} {pins : List (Addr × Obj)} {σ : L2.St} {H F : Hp} {s : Shared} {k : Nat}
theorem eqT_of (I : L2.Inv X pins σ H s) (sF : Same F H) (hr : X.A.units + 65 < cLine) {v u : V} {x y : Value} {d e : D} {b : Bool} (h : eqS d e = .ok (.bl b)) (rv : Rep (gOf X) F v d) (ru : Rep (gOf X) F u e) (hx : RelV v x) (hy : RelV u y) : EqT X.prog X.w X.A.in1 s x y b := by
  unfold eqS at h
  split at h
  · rename_i p q h1 h2
    split at h
    · rename_i hs
      injection h with h
      injection h with h
      subst h
      obtain ⟨as, r1⟩ := Dp.reads I p v x (rv.dp sF h1) hx
      obtain ⟨bs, r2⟩ := Dp.reads I q u y (ru.dp sF h2) hy
      have z := PySem.W.keq_at (A := X.A) r1 r2 hs.1 hs.2 (show X.A.units + 1 + 64 < cLine by omega)
      exact fun E Q hq => z X.prog X.w E Q hq
    · cases h
  · cases h
theorem hits_of (I : L2.Inv X pins σ H s) (sF : Same F H) (hr : X.A.units + 65 < cLine) {ys : List EN} {us : List V} {ks2 vs2 : List D} (h2 : DR (gOf X) F ys us ks2 vs2) : ∀ {xs : List EN} {ws : List V} {ks vs : List D} {b : Bool}, DR (gOf X) F xs ws ks vs → sameK ks vs ks2 vs2 = some b → HitsH X.prog X.w X.A.in1 s ys xs b
  | xs, ws, ks, vs, b, h, e => by
    rcases h.shape with ⟨rfl, rfl, rfl, rfl⟩ | ⟨x, xs', w, ws', k, ks', v, vs', rfl, rfl, rfl, rfl⟩
    · simp [sameK] at e
      subst e
      exact .nil
    · obtain ⟨t, e1, e2, e3, e4⟩ := h.tail
      rw [sameK, e3] at e
      simp only at e
      rcases getK_at (q := x.1) h2.wv h2.ke h2.vr with ⟨z1, z2⟩ | ⟨d, en, u, z1, z2, z3, z4⟩
      · rw [z1] at e
        cases e
        exact .miss z2
      · rw [z1] at e
        simp only at e
        split at e
        · rename_i he
          exact .hit z2 (eqT_of I sF hr he e4 z4 e1 z3) (hits_of I sF hr h2 t e)
        · rename_i he
          cases e
          exact .not z2 (eqT_of I sF hr he e4 z4 e1 z3)
        · cases e
def rDD (X : Cx) (P : Bool → Hp → Prop) : V → V → Hp → Prop := fun x y H => ∃ (F : Hp) (p p2 : Addr) (o o2 : Obj) (xs ys : List EN) (ws us : List V) (ks vs ks2 vs2 : List D) (b : Bool), x = .ref p ∧ y = .ref p2 ∧ Same F H ∧ H p = some (.ext (isObj' p o)) ∧ (p == sysModules) = false ∧
  DicO (gOf X) o xs ∧ DR (gOf X) F xs ws ks vs ∧ H p2 = some (.ext (isObj' p2 o2)) ∧ (p2 == sysModules) = false ∧ DicO (gOf X) o2 ys ∧ DR (gOf X) F ys us ks2 vs2 ∧ sameD ks vs ks2 vs2 = some b ∧ P b H
theorem op_cmpH (hr : Room k X.A) {op : CmpOp} {c : Bool} (ho : (op = .Eq ∧ c = true) ∨ (op = .NotEq ∧ c = false)) : OpR X (compareOp op) (fun x y H Q => rDD X (fun b H => Q (.bl (if c = true then b else !b)) H) x y H) := by
  intro pins s σ H x y u1 u2 Q I r1 r2 h
  obtain ⟨F, p, p2, o, o2, xs, ys, ws, us, ks, vs, ks2, vs2, b, rfl, rfl, sF, hp, hn, dd, dr, hp2, hn2, dd2, dr2, hb, hq⟩ := h
  cases r1
  cases r2
  have hu := hr.un
  unfold sameD at hb
  rw [← dr.len, ← dr2.len] at hb
  split at hb
  · rename_i hl
    refine cmpH ho (room8 hr) (by omega) hn hn2 (dr_of I sF hp dd dr) (dr_of I sF hp2 dd2 dr2) (fun _ => hits_of I sF (by omega) dr2 dr hb) ⟨.bl (if c = true then b else !b), H, I, ?_, hq⟩
    rw [hl, beq_self_eq_true, Bool.true_and] <;> rfl
  · rename_i hl
    cases hb
    refine cmpH (r := true) ho (room8 hr) (by omega) hn hn2 (dr_of I sF hp dd dr) (dr_of I sF hp2 dd2 dr2) (fun z => (hl z).elim) ⟨.bl (if c = true then false else !false), H, I, ?_, hq⟩
    rw [beq_eq_false_iff_ne.mpr hl, Bool.false_and] <;> rfl
theorem eqD_ok' : OpD (gOf X) (fun x y H Q => rEqD X.K x y H Q ∨ rDD X (fun b H => Q (.bl (if true = true then b else !b)) H) x y H) .R .R .S eqD := fun F H x y a b d Q Ha Hb s ka kb e k => by
  unfold eqD at e
  split at e
  · split at e <;> cases e
    rename_i hb
    obtain ⟨p, o, xs, ws, rfl, h1, h2, h3, h4⟩ := RdD.dr s (show RdD (gOf X) F H x _ from ka)
    obtain ⟨p', o', xs', ws', rfl, h1', h2', h3', h4'⟩ := RdD.dr s (show RdD (gOf X) F H y _ from kb)
    exact .inr ⟨F, p, p', o, o', xs, xs', ws, ws', _, _, _, _, _, rfl, rfl, s, h1, h2, h3, h4, h1', h2', h3', h4', hb, k _ F H (Grow.refl s) (Rep.bl _)⟩
  · exact .inl (eq_ok F H x y _ _ d Q Ha Hb s ka kb e k)
theorem neD_ok' : OpD (gOf X) (fun x y H Q => rNeD X.K x y H Q ∨ rDD X (fun b H => Q (.bl (if false = true then b else !b)) H) x y H) .R .R .S neD := fun F H x y a b d Q Ha Hb s ka kb e k => by
  unfold neD at e
  split at e
  · split at e <;> cases e
    rename_i hb
    obtain ⟨p, o, xs, ws, rfl, h1, h2, h3, h4⟩ := RdD.dr s (show RdD (gOf X) F H x _ from ka)
    obtain ⟨p', o', xs', ws', rfl, h1', h2', h3', h4'⟩ := RdD.dr s (show RdD (gOf X) F H y _ from kb)
    exact .inr ⟨F, p, p', o, o', xs, xs', ws, ws', _, _, _, _, _, rfl, rfl, s, h1, h2, h3, h4, h1', h2', h3', h4', hb, k _ F H (Grow.refl s) (Rep.bl _)⟩
  · exact .inl (ne_ok F H x y _ _ d Q Ha Hb s ka kb e k)
theorem c_eq (hr : Room k X.A) : Cmp X .Eq eqD := ⟨⟨_, (op_eqD hr.units).or (op_cmpH hr (.inl ⟨rfl, rfl⟩)), eqD_ok'⟩, ne_eqD⟩
theorem c_ne (hr : Room k X.A) : Cmp X .NotEq neD := ⟨⟨_, (op_neD hr.units).or (op_cmpH hr (.inr ⟨rfl, rfl⟩)), neD_ok'⟩, ne_neD⟩
end
section
variable {prog : Program} {w : World} {A : Around} {E : Value → Shared → Prop} {s : Shared}
theorem dictCopyH {o : Addr} {xs : List EN} {Q : Value → Shared → Prop} (hu : (nestedKind prog w).room A.in1.in1) (hoS : (o == sysModules) = false) (ho : s.heap.DictOfH (nestedKind prog w) o xs) (hsz : xs.length ≤ sizeLine) (hap : (xs.map fun x => (nestedKind prog w).hash x.1).Nodup)
    (h : ∀ h', h'.DictOfH (nestedKind prog w) s.heap.objs.size xs → Heap.SameBut s.heap.objs.size (s.heap.push { cls := .type "dict", data := .dict #[] }) h' → Q (.ref s.heap.objs.size) { s with heap := h' }) :
    wpAny (model prog w) A (call (.type "dict") [.ref o]) Q E s := by
  refine callType_codes (Q₁ := fun ob t => ob = .ref s.heap.objs.size ∧ t = { s with heap := s.heap.push { cls := .type "dict", data := .dict #[] } }) F.kt_called_dict (F.kt_typeCall_dict_1 _) F.entry_dict_init (kt_code_dict_new _ ⟨rfl, rfl⟩) ?_
  rintro ob t ⟨rfl, rfl⟩
  have hnew : (s.heap.push { cls := .type "dict", data := .dict #[] }).DictOfH (nestedKind prog w) s.heap.objs.size [] := Heap.DictOfH.new s.heap
  have hty := keyed_apart nestedKind_stays ho
  have hn := ho.nodup
  obtain ⟨oo, es, ep, hg, hc, hd, he, hi, hnn⟩ := id ho
  have hlt := Heap.lt_size hg
  have ho' : (s.heap.push { cls := .type "dict", data := .dict #[] }).DictOfH (nestedKind prog w) o xs :=
    ⟨oo, es, ep, Heap.get?_push_of_some _ hg, hc, hd, he, fun x hx => nestedKind_stays.stays (fun b u _ _ q _ => Heap.get?_push_of_some _ q) (hi x hx), hnn⟩
  refine ⟨hnew.typeIs, F.args_dict_init_2 _ _, ?_⟩
  unfold Builtin.«dict.__init__» Builtin.Dict.selfAndRest
  refine wpAny_bind (wpAny_bind (wpAny_notOrdered_dict hnew.typeIs ?_))
  show wpAny _ _ (pure (s.heap.objs.size, [Value.ref o])) _ _ _
  refine wpAny_pure ?_
  show wpAny _ _ (Builtin.Dict.updateFrom "dict.__init__" s.heap.objs.size (.ref o) [] .none) _ _ _
  refine wpAny_mono (updateFrom_dictH (R := fun r s' => r = .ok (.ret .none) ∧ Q (.ref s.heap.objs.size) s') .none hu (Nat.ne_of_gt hlt) hoS hnew ho' (.inr ⟨fun x hx => ?_, hap⟩) (by simpa using hsz) fun h' h1 h2 h3 => ⟨rfl, ?_⟩) (fun fin s' z => ?_) fun e s' z => ?_
  · obtain ⟨u, hu1, hu2⟩ := hty x hx
    exact ⟨u, Heap.get?_push_of_some _ hu1, hu2⟩
  · rw [storedAllH_nil_of_nodup xs hn] at h1
    exact h h' h1 h3
  · cases fin with
    | done f => obtain ⟨z1, z2⟩ := z; cases z1; exact ⟨rfl, z2⟩
    | again c => exact ⟨z.1, codeAny_mono z.2 fun r s1 q => by obtain ⟨q1, q2⟩ := q; cases q1; exact ⟨rfl, q2⟩⟩
  · obtain ⟨z1, z2⟩ := z
    cases z1
end
mutual
/-- a key's hash, where no text is in it -/
def nh : NestedKey → Option Int
  | .none => some (reduceHash 0xFCA86420)
  | .num i => some (hashInt i)
  | .text _ => none
  | .tup ks => match nhs ks with
    | some hs => some (reduceHash (Builtin.Tuple.tupleHashOf hs))
    | none => none
def nhs : List NestedKey → Option (List Int)
  | [] => some []
  | k :: ks => match nh k, nhs ks with
    | some h, some hs => some (h :: hs)
    | _, _ => none
end
mutual
theorem nh_eq (w : World) : ∀ {k : NestedKey} {h : Int}, nh k = some h → NestedKey.hash w k = h
  | .none, h, e => by rw [nh] at e; cases e; rw [NestedKey.hash]
  | .num i, h, e => by rw [nh] at e; cases e; rw [NestedKey.hash]
  | .text x, h, e => by rw [nh] at e; cases e
  | .tup ks, h, e => by
    rw [nh] at e
    split at e
    · rename_i hs hh
      cases e
      rw [NestedKey.hash, nhs_eq w hh]
    · cases e
theorem nhs_eq (w : World) : ∀ {k : List NestedKey} {h : List Int}, nhs k = some h → NestedKey.hashes w k = h
  | [], h, e => by rw [nhs] at e; cases e; rw [NestedKey.hashes]
  | k :: ks, h, e => by
    rw [nhs] at e
    split at e
    · rename_i a b h1 h2
      cases e
      rw [NestedKey.hashes, nh_eq w h1, nhs_eq w h2]
    · cases e
end
/-- the keys' hashes -/
def hashesK : List D → Option (List Int)
  | [] => some []
  | k :: ks => match keyOf k with
    | some q => match nh q, hashesK ks with
      | some h, some hs => some (h :: hs)
      | _, _ => none
    | none => none
def apartK (ks : List D) : Bool := match hashesK ks with
  | some hs => decide hs.Nodup
  | none => false
theorem hashes_at {P : Program} (w : World) : ∀ {xs : List EN} {ks : List D} {hs : List Int}, ks.map keyOf = xs.map (fun x => some x.1) → hashesK ks = some hs → xs.map (fun x => (nestedKind P w).hash x.1) = hs
  | [], ks, hs, ke, e => by
    cases ks with
    | nil => rw [hashesK] at e; cases e; rfl
    | cons k ks => cases ke
  | x :: xs, ks, hs, ke, e => by
    cases ks with
    | nil => cases ke
    | cons k ks =>
      rw [List.map_cons, List.map_cons, List.cons.injEq] at ke
      rw [hashesK, ke.1] at e
      simp only at e
      split at e
      · rename_i a b h1 h2
        cases e
        rw [List.map_cons, hashes_at w ke.2 h2]
        have z : (nestedKind P w).hash x.1 = a := nh_eq w h1
        rw [z]
      · cases e
def dictD : D → Res D
  | .dic ks vs => if apartK ks = true then .ok (.dic ks vs) else .bad
  | _ => .bad
section
variable {X : Cx} {k : Nat}
theorem call_dictN (hr : Room k X.A) : CallR X (.type "dict") (fun xs H Q => ∃ (F : Hp) (p : Addr) (o : Obj) (es : List EN) (ws : List V) (ks vs : List D), xs = [.ref p] ∧ Same F H ∧ H p = some (.ext (isObj' p o)) ∧ (p == sysModules) = false ∧ DicO (gOf X) o es ∧ DR (gOf X) F es ws ks vs ∧ apartK ks = true ∧
    ∀ a o', H a = none → (a == sysModules) = false → DicO (gOf X) o' es → Q (.ref a) (upd H a (.ext (isObj' a o')))) := by
  intro pins s σ H xs us Q I r h
  obtain ⟨F, p, o, es, ws, ks, vs, rfl, sF, hp, hn, dd, dr, ha, q⟩ := h
  obtain ⟨u, rfl, rx⟩ := vals1 r
  cases rx
  have hap : (es.map fun x => (nestedKind X.prog X.w).hash x.1).Nodup := by
    unfold apartK at ha
    split at ha
    · rename_i hs hh
      rw [hashes_at X.w dr.ke hh]
      exact of_decide_eq_true ha
    · cases ha
  have hu := hr.un
  refine dictCopyH (show X.A.units + 1 + 1 + 8 < cLine by omega) hn (dr_of I sF hp dd dr) dd.sz hap fun h' hm hs => ?_
  have nm : (s.heap.objs.size == sysModules) = false := beq_eq_false_iff_ne.mpr (Ne.symm (Nat.ne_of_lt I.big))
  obtain ⟨o', e1, e2⟩ := dicO_of hm dd.sz
  exact ⟨.ref s.heap.objs.size, _, I.laid (t' := s.toks) (fun b u e => (hs.2 b (Nat.ne_of_lt (Heap.lt_size e))).trans (Heap.get?_push_of_some _ e)) (Nat.le_refl _) (ext_ok e1), rfl, q _ o' (I.hok.fresh (Nat.le_refl _)) nm e2⟩
theorem boot_dict' : bootBuiltins "dict" = some (.type "dict") := by decide +kernel
theorem b_dict (hr : Room k X.A) (hm : X.mg "dict" = none) : BlM X "dict" (.O .flat) (one dictD) := BlM.t hm boot_dict' (call_dictN hr) (ne_one (fun d e z => by unfold dictD at z; split at z <;> (try split at z) <;> cases z)) (cal_one fun F H x a d Q s ra e q => by
  unfold dictD at e
  split at e
  · split at e <;> cases e
    rename_i ha
    obtain ⟨p, o, xs, ws, rfl, h1, h2, h3, h4⟩ := RdD.dr s (show RdD (gOf X) F H x _ from ra)
    exact ⟨F, p, o, xs, ws, _, _, rfl, s, h1, h2, h3, h4, ha, fun t o' ht hn dd => q _ _ _ (Grow.own s ht) ⟨[t], Own.dr upd_same (s.free ht) hn dd h4, fun a ha => by rw [List.mem_singleton.mp ha]; exact ht⟩⟩
  · cases e)
end
/-- the keys in their order -/
def Itdk (d : Addr) (o : Obj) (xs : List EN) : It := ⟨fun i H => H d = some (.ext (isObj' d o)) ∧ i < xs.length, fun i H x H' => H' = H ∧ ∃ e, xs[i]? = some e ∧ x = .ref e.2.1, fun i H => H d = some (.ext (isObj' d o)) ∧ xs.length ≤ i⟩
theorem ent_at {K : Type} [DecidableEq K] {P : Program} {w : World} {knd : HeapKind P w K} {es : Array DictEntry} {xs : List (K × Addr × Value)} (he : es.toList = xs.map (entryOfKey knd)) {i : Nat} (hi : i < es.size) : ∃ e, xs[i]? = some e ∧ es[i].key = .ref e.2.1 ∧ es[i].val = e.2.2 := by
  have h1 := entry_at he i
  rw [Array.getElem?_eq_getElem hi] at h1
  cases hx : xs[i]? with
  | none => rw [hx] at h1; cases h1
  | some e =>
    rw [hx] at h1
    have h2 : es[i] = entryOfKey knd e := Option.some.inj h1
    exact ⟨e, rfl, by rw [h2]; rfl, by rw [h2]; rfl⟩
section
variable {P : Program} {w : World} {K : PySem.W.Frag} {tg : Expr} {d : Addr} {o : Obj} {es : Array DictEntry} {ep : Nat} {xs : List EN} {ws : List V}
theorem ext_raw {X : Cx} {pins : List (Addr × Obj)} {σ : L2.St} {H : Hp} {s : Shared} (I : L2.Inv X pins σ H s) (h : H d = some (.ext (isObj' d o))) (hx : o.ExactDict) (hd : o.data = .dict es ep) : s.heap.DictRaw d es ep := by
  obtain ⟨e, _⟩ := (show ObjOk X.prog X.w H s.heap d (.ext (isObj' d o)) from I.hok d _ h)
  exact ⟨o, e, hx, hd⟩
theorem turn_dk (it : Addr) (hx : o.ExactDict) (hod : o.data = .dict es ep) (he : es.toList = xs.map (entryOfKey (nestedKind P w))) : Turn P w K tg (Itdk d o xs) [it] it (fun i h => h.IsKeyIter it d i es.size ep) where
  mem := by simp
  obj := fun i h st b hb => by
    have e : b = it := by simpa using hb
    subst e
    obtain ⟨oi, e, c, dd⟩ := st
    exact ⟨oi, e, fun v z => by rw [dd] at z; cases z⟩
  keep := fun i h h' st k => st.at fun oi e => k it (by simp) oi e
  item := by
    intro X hP hw hK hc i pins s σ H E I hf st ⟨hd, hi⟩
    subst hP hw hK
    obtain ⟨f0, f1, f2, f3, f4, f5⟩ := hf it (by simp)
    have hsz := size_of_entries he
    have hi' : i < es.size := by rw [hsz]; exact hi
    obtain ⟨e, e1, e2, _⟩ := ent_at he hi'
    refine wpAny_pyNext_keys_item_raw st (ext_raw I hd hx hod) hi' fun h' st' sb => ?_
    have I1 : Inv X pins σ H { s with heap := h' } := I.turned (t' := s.toks) (fun b ob hb q => (sb.2 b hb).trans q) f0 f1 f3 f4 f5
    obtain ⟨oi, q, c, dd⟩ := id st'
    exact ⟨es[i].key, rfl, go_of (s := { s with heap := h' }) q c dd (by decide) ⟨.ref e.2.1, H, I1, e2, ⟨rfl, e, e1, rfl⟩, st', fun b hb => (hf b hb).1⟩⟩
  done := by
    intro X hP hw hK hc i pins s σ H E I hf st ⟨hd, hi⟩
    subst hP hw hK
    obtain ⟨f0, f1, f2, f3, f4, f5⟩ := hf it (by simp)
    have hsz := size_of_entries he
    exact wpAny_pyNext_keys_end_raw (I.ok.hd hc) st (ext_raw I hd hx hod) (by rw [hsz]; exact hi) fun h' eb => ⟨rfl, I.turned (t' := s.toks) (fun b ob hb e => eb b ob hb e) f0 f1 f3 f4 f5⟩
  self := fun A i s Q E st h => wpAny_pyIter_keyiter st h
end
/-- the dict is there -/
def iDk (X : Cx) (J : Addr → Obj → List EN → List V → It) (td : TE) : TI := fun σ H R => td σ H fun x H1 => ∃ (F : Hp) (d : Addr) (o : Obj) (xs : List EN) (ws : List V) (ks vs : List D), x = .ref d ∧ Same F H1 ∧ H1 d = some (.ext (isObj' d o)) ∧ (d == sysModules) = false ∧ DicO (gOf X) o xs ∧ DR (gOf X) F xs ws ks vs ∧ R (J d o xs ws) H1
section
variable {X : Cx} {W : Wi} {tg e : Expr} {td : TE} {fe : Env → Res D} {apos cpos : Pos}
theorem pi_dk (he : PE X e td) : PI X tg e (iDk X (fun d o xs _ => Itdk d o xs) td) := by
  refine ⟨fun pins s σ H R I h => thn (he.run pins s σ H _ I h) fun u s1 ⟨x, H1, I1, rx, F', d, o, xs, ws, ks, vs, ex, sF, hd, hn, dd, dr, q⟩ => ?_⟩
  subst ex
  obtain rfl : u = Value.ref d := rx
  obtain ⟨es, ep, h1, h2⟩ := dd.dat
  refine wpAny_pyIter_dict_raw hn (ext_raw I1 hd dd.ex h1) (pi_one (tk := s1.toks) I1 _ (turn_dk _ dd.ex h1 h2) ⟨_, Heap.get?_push_size _ rfl, rfl, rfl⟩ q)
theorem WalkD.dk {G : GC} {F F1 B : Hp} {d : Addr} {o : Obj} {xs : List EN} {ws : List V} {ks vs : List D} (h : B d = some (.ext (isObj' d o))) (dr : DR G F xs ws ks vs) : WalkD G F B (Itdk d o xs) ks := ⟨fun i H hi s => ⟨s _ _ h, by rw [dr.len]; exact hi⟩, fun H s => ⟨s _ _ h, by rw [dr.len]; exact Nat.le_refl _⟩, fun i F2 H2 x H3 hi s1 s2 s3 y => by
  obtain ⟨rfl, e, he, rfl⟩ := y
  obtain ⟨kd, h1, h2⟩ := dr.kr.getV (i := i) (v := .ref e.2.1) (by rw [List.getElem?_map, he]; rfl)
  exact ⟨F2, kd, Grow.refl s2, h1, h2.mono s1⟩⟩
/-- the pairs of a table -/
def pairsK (ks vs : List D) : List D := (ks.zip vs).map fun p => .tup [p.1, p.2]
def itemsD (d : D) : Res (List D) := match d with
  | .dic ks _ => .ok ks
  | d => itemsS d
@[simp] theorem itemsD_lst (xs : List D) : itemsD (.lst xs) = .ok xs := rfl
@[simp] theorem itemsD_tup (xs : List D) : itemsD (.tup xs) = .ok xs := rfl
@[simp] theorem itemsD_scr (xs : List Int) : itemsD (.scr xs) = .ok (xs.map D.int) := rfl
@[simp] theorem itemsD_str (z : Str) : itemsD (.str z) = .ok (signsOf z) := rfl
@[simp] theorem itemsD_dic (ks vs : List D) : itemsD (.dic ks vs) = .ok ks := rfl
theorem re_iter (he : RE X W .S e fe) : RI X W true tg e (fun r => fe r >>= itemsD) := by
  refine ⟨fun pins s σ H R I ⟨H0, F0, fp, F, r, m, o⟩ => ?_⟩
  have o : Out (gOf X) W σ F H _ (fe r >>= itemsD) := o
  cases ef : fe r with
  | er x => exact (re_iterS he).run pins s σ H R I ⟨H0, F0, fp, F, r, m, by show Out _ _ _ _ _ _ (fe r >>= itemsS); rw [ef] at o ⊢; exact o⟩
  | bad => rw [ef] at o; exact o.elim
  | ok d =>
    rw [ef] at o
    have o0 : itemsD d = itemsS d → Out (gOf X) W σ F H _ (fe r >>= itemsS) := fun z => by
      rw [ef]
      have o1 : Out (gOf X) W σ F H _ (itemsD d) := o
      rw [z] at o1
      exact o1
    cases d with
    | dic ks vs => exact (pi_dk he).run pins s σ H R I ⟨H0, F0, fp, F, r, m, by
        rw [ef]
        intro F' H' gr v kv
        have kv' : Rep (gOf X) F' v (.dic ks vs) := kv
        cases kv' with
        | dic h1 z1 z2 z3 z4 z5 z6 => exact ⟨F', _, _, _, _, ks, vs, rfl, gr.sub, gr.sub _ _ h1, z1, z2, ⟨z3, z4, z5, z6⟩, o F' H' gr _ (WalkD.dk (F1 := F') h1 ⟨z3, z4, z5, z6⟩)⟩⟩
    | _ => exact (re_iterS he).run pins s σ H R I ⟨H0, F0, fp, F, r, m, o0 rfl⟩
def valsD (d : D) : Res (List D) := match d with
  | .dic _ vs => .ok vs
  | _ => .bad
def pairsD (d : D) : Res (List D) := match d with
  | .dic ks vs => .ok (pairsK ks vs)
  | _ => .bad
@[simp] theorem valsD_dic (ks vs : List D) : valsD (.dic ks vs) = .ok vs := rfl
@[simp] theorem pairsD_dic (ks vs : List D) : pairsD (.dic ks vs) = .ok (pairsK ks vs) := rfl
end
end Mir
namespace Mir
open PySem PySem.Spec PyProof.Rows L2
variable [Tn]
def clrG (i : Nat) (r : Env) : Oc := match ownF i r with
  | some (.lst _) => .nx (r.set i (.ow .flat (.lst [])))
  | some (.dic _ _) => .nx (r.set i (.ow .flat (.dic [] [])))
  | _ => .bad
section
variable {X : Cx} {W : Wi} {k : Kd} {m : Nat} {e : Expr} {fe : Env → Res D} {pos apos cpos ps : Pos} {x : Str}
/-- a dict and what is done to it -/
def rDU (X : Cx) (P : List EN → List V → List D → List D → Hp → Addr → Hp → Prop) : V → Hp → Prop := fun x H => ∃ (F : Hp) (p : Addr) (o : Obj) (xs : List EN) (ws : List V) (ks vs : List D), x = .ref p ∧ Same F H ∧ H p = some (.ext (isObj' p o)) ∧ (p == sysModules) = false ∧ DicO (gOf X) o xs ∧ DR (gOf X) F xs ws ks vs ∧ P xs ws ks vs F p H
theorem pe_dclear (i : Nat) (hN : X.N[i]? = some x) (hv : Vis X.env.scope x) (hd : (x == ("__debug__" : Str)) = false) (hcd : (x == ("__classdict__" : Str)) = false) (hbase : attributeBase (.Name x ps) "clear" X.env (eval (.Name x ps) X.env) = eval (.Name x ps) X.env) (hline : (apos.endLine == cpos.line) = true) :
    PE X (.Call (.Attribute (.Name x ps) "clear" apos) [] [] cpos) (fun σ H Q => ∃ v, σ[i]? = some (some v) ∧ rDU X (fun xs ws ks vs F p H => ∀ o', DicO (gOf X) o' [] → Q .non (upd H p (.ext (isObj' p o')))) v H) := by
  refine ⟨fun pins s σ H Q I h => ?_⟩
  obtain ⟨v, hv', h⟩ := h
  refine wpAny_Call_method0_late hbase hline (thn ((pe_var hN hv hd hcd).run pins s σ H (fun y H1 => y = v ∧ H1 = H) I ⟨v, hv', rfl, rfl⟩) fun u s1 ⟨y, H1, I1, r1, ey, eH⟩ => ?_)
  subst ey eH
  obtain ⟨F', p, o, xs, ws, ks, vs, rfl, sF, hp, hn, dd, dr, q⟩ := h
  cases r1
  have dm := dr_of I1 sF hp dd dr
  obtain ⟨es, ep, h1, h2⟩ := dd.dat
  have hr := ext_raw I1 hp dd.ex h1
  refine ⟨"dict", "dict.clear", F.plainAttrs_dict, F.slot_dict_clear, F.type_dict_clear, hr.typeIs, fun a ea => by cases ea; exact ⟨o, (I1.hok p _ hp).1, dd.ex.2.1⟩, Calls.callWith_builtin rfl (PySem.evalArgs_none ?_)⟩
  refine clear_keyed (knd := nestedKind X.prog X.w) ⟨xs, dm, rfl⟩ (fun h' hm hs => ?_) (by rw [pairsH_length]; exact dd.sz)
  obtain ⟨ys, hy, ey⟩ := hm
  have eys : ys = [] := by
    cases ys with
    | nil => rfl
    | cons a b => cases ey
  subst eys
  obtain ⟨o', e1, e2⟩ := dicO_of hy (Nat.zero_le _)
  exact ⟨.non, _, d_write (t' := s1.toks) I1 (by rw [hp]; exact True.intro) hs ⟨o', e1⟩ (ext_ok e1), rfl, q o' e2⟩
theorem rs_clear (i : Nat) (hN : X.N[i]? = some x := by rfl) (hv : Vis X.env.scope x := by first | exact Or.inl rfl | exact Or.inr (Or.inl rfl) | exact Or.inr (Or.inr rfl)) (hd : (x == ("__debug__" : Str)) = false := by decide)
    (hcd : (x == ("__classdict__" : Str)) = false := by decide) (hs : swapsWith (.Call (.Attribute (.Name x ps) "clear" apos) [] [] cpos) none pos.line X.env = pure false := by rfl)
    (hbase : attributeBase (.Name x ps) "clear" X.env (eval (.Name x ps) X.env) = eval (.Name x ps) X.env := by rfl) (hline : (apos.endLine == cpos.line) = true := by rfl) :
    RS X W k (.Expr (.Call (.Attribute (.Name x ps) "clear" apos) [] [] cpos) pos) (clrG i) := by
  refine ⟨fun pins s σ H D I h => ?_⟩
  obtain ⟨H0, F0, fp, F, r, m, o⟩ := h
  cases ho : ownF i r with
  | none =>
    have o' : OutS (gOf X) W k H0 F0 F D (clrG i r) := o
    unfold clrG at o'
    rw [ho] at o'
    exact o'.elim
  | some d =>
    have hi := ownF_some ho
    cases d with
    | lst ds => exact (rs_clearL (W := W) (k := k) i hN hv hd hcd hs hbase hline).run pins s σ H D I ⟨H0, F0, fp, F, r, m, by
        have o' : OutS (gOf X) W k H0 F0 F D (clrG i r) := o
        unfold clrG at o'
        rw [ho] at o'
        unfold clrLG ownL
        rw [hi]
        exact o'⟩
    | dic ks vs =>
      have o' : OutS (gOf X) W k H0 F0 F D (clrG i r) := o
      unfold clrG at o'
      rw [ho] at o'
      obtain ⟨a, ob, xs, ws, h1, h2, h3, h4, h5, h6⟩ := m.dic hi
      exact (ps_expr (pe_dclear i hN hv hd hcd hbase hline) hs).run pins s σ H D I ⟨.ref a, h1, F, a, ob, xs, ws, ks, vs, rfl, m.sub, h2, h3, h4, h5, fun o2 dd => by
        obtain ⟨fp', m'⟩ := m.dicUpd hi h1 h6 h3 dd (DR.nil (F := F))
        exact o' fp' F σ _ (Same.refl _) m'⟩
    | _ =>
      have o' : OutS (gOf X) W k H0 F0 F D (clrG i r) := o
      unfold clrG at o'
      rw [ho] at o'
      exact o'.elim
end
section
variable {G : GC} {F H : Hp}
theorem OwnAll.setAt {f : Nat → Shape} {d' : D} : ∀ {n0 : Nat} {ws : List V} {vs : List D} {A : List Addr}, OwnAll G F H f n0 ws vs A → ∀ (n : Nat) {d : D}, vs[n]? = some d → ∃ w B, ws[n]? = some w ∧ Own G F H (f (n0 + n)) w d B ∧ (∀ b ∈ B, b ∈ A) ∧
      ∀ a o, a ∈ B → Own G F (upd H a o) (f (n0 + n)) w d' B → OwnAll G F (upd H a o) f n0 ws (vs.set n d') A
  | _, _, _, _, .nil, n, d, h => by simp at h
  | n0, _, _, _, .cons (A := A) (B := B) r t x, 0, d, h => by
    simp at h
    subst h
    exact ⟨_, A, rfl, r, fun b hb => List.mem_append_left _ hb, fun a o ha r' => .cons r' (t.keep (Keep.upd (x a ha))) x⟩
  | n0, _, _, _, .cons (A := A) (B := B) r t x, n + 1, d, h => by
    obtain ⟨w, C, h1, h2, h3, h4⟩ := OwnAll.setAt t n (d := d) (by simpa using h)
    rw [show n0 + 1 + n = n0 + (n + 1) by omega] at h2 h4
    refine ⟨w, C, by simpa using h1, h2, fun b hb => List.mem_append_right _ (h3 b hb), fun a o ha r' => ?_⟩
    rw [List.set_cons_succ]
    exact .cons (r.keep (Keep.upd fun z => x a z (h3 a ha))) (h4 a o ha r') x
end
def Shape.isFlat : Shape → Bool
  | .flat => true
  | _ => false
theorem Shape.flat_of {s : Shape} (h : s.isFlat = true) : s = .flat := by cases s <;> first | rfl | cases h
def setFI (i c n : Nat) (fv fi : Env → Res D) (r : Env) : Oc := lift (fv r) r fun v => match r[i]? with
  | some (.ow s (.obj c' vs)) => if c' = c ∧ (s.kid n).isFlat = true then (match vs[n]? with
    | some (.dic ks us) => lift (fi r) r fun kx => match keyT kx with
      | some q => if ks.length < lim then .nx (r.set i (.ow s (.obj c (vs.set n (.dic (setK ks us kx q v).1 (setK ks us kx q v).2))))) else .bad
      | none => .bad
    | _ => .bad) else .bad
  | _ => .bad
section
variable {X : Cx} {W : Wi} {k : Nat} {kk : Kd} {e iv : Expr} {fe fi : Env → Res D} {pos ps p2 p3 : Pos} {x f : Str}
theorem rs_fldItem (i c n : Nat) (M : ClM X.K (gOf X).ca f c) (hr : Room k X.A) (he : RE X W .S e fe) (hi : RE X W .R iv fi) (hn : (cflds c)[n]? = some f := by rfl) (hN : X.N[i]? = some x := by rfl) (hv : Vis X.env.scope x := by first | exact Or.inl rfl | exact Or.inr (Or.inl rfl) | exact Or.inr (Or.inr rfl)) (hd : (x == ("__debug__" : Str)) = false := by decide)
    (hcd : (x == ("__classdict__" : Str)) = false := by decide) (hb : attributeBase (.Name x ps) f X.env (eval (.Name x ps) X.env) = eval (.Name x ps) X.env := by rfl) (ha : ∀ v, assign (.Subscript (.Attribute (.Name x ps) f p3) iv p2) X.env v = (do
      let ov ← holding [v] (eval (.Attribute (.Name x ps) f p3) X.env)
      let iv ← holding [v, ov] (eval iv X.env)
      standAt p2
      holding [v, ov, iv] (setItem ov iv v)
      release [v, ov, iv] []) := by intro _; rfl)
    (hs : swapsWithSole [.Subscript (.Attribute (.Name x ps) f p3) iv p2] e pos.line X.env = pure false := by rfl) (hw : swappedStores [.Subscript (.Attribute (.Name x ps) f p3) iv p2] e X.env = pure none := by rfl) (h1 : (assignEach [.Subscript (.Attribute (.Name x ps) f p3) iv p2] X.env).map (·.2) = [assign (.Subscript (.Attribute (.Name x ps) f p3) iv p2) X.env] := by rfl) :
    RS X W kk (.Assign [.Subscript (.Attribute (.Name x ps) f p3) iv p2] e pos) (setFI i c n fe fi) :=
  (ps_asg he (pg_sub (pe_fld (pe_var hN hv hd hcd) hb) hi (set_dic hr) ha) hs hw h1).imp fun D σ H ⟨H0, F0, fp, F, r, m, o⟩ => ⟨H0, F0, fp, F, r, m, OutS.lift m o fun F' H' d gr o' v kv => by
    split at o'
    · rename_i s c' vs hi
      split at o'
      · rename_i hc
        obtain ⟨rfl, hfl⟩ := hc
        have hfl := Shape.flat_of hfl
        split at o'
        · rename_i ks us hvs
          have m' := m.grow gr
          obtain ⟨⟨w, hw, ow⟩, hA⟩ := m'.ow i _ _ hi
          have hfp : fp i = fp i := rfl
          generalize hAA : fp i = A at ow hA
          cases ow with
          | sh _ => cases hfl
          | @obj _ a dx _ ws _ A' so ha fa hz oa na =>
            obtain ⟨w2, B, b1, b2, b3, b4⟩ := oa.setAt (d' := .dic [] []) n hvs
            rw [Nat.zero_add, hfl] at b2
            cases b2 with
            | @dic _ p ob xs wz _ _ _ h0 e2 f2 z1 z2 z3 z4 z5 ra nb =>
              obtain ⟨rfl, rr⟩ := ra.to_rep
              refine ⟨.ref a, hw, a, (gOf X).ca c', dx, _, .ref p, rfl, ha, M.cl, M.no, lookup_zip M.nd hn b1, H0, F0, fp, F', r, m', OutS.lift m' o' fun F2 H2 n2 g2 o2 u ku => ?_⟩
              split at o2
              · rename_i q hq
                split at o2
                · rename_i hl
                  obtain ⟨b, rfl, rb⟩ := key_ref (show RdD (gOf X) F2 H2 u _ from ku) hq
                  have dr : DR (gOf X) F2 xs wz ks us := (DR.mk z3 z4 z5 rr).mono g2.f
                  refine ⟨F2, p, b, ob, xs, wz, ks, us, n2, q, rfl, rfl, g2.sub, g2.h.at _ _ e2, z1, z2, dr, rb, hq, by rw [dr.len]; exact Nat.le_of_lt hl, fun p' b' ob' uu ep eb ru dd' => ?_⟩
                  cases ep
                  cases eb
                  obtain ⟨wz', dr'⟩ := dr.set ru rb (keyT_some hq).2.1 (Mir.Rep.mono g2.f kv)
                  have m2 := m'.grow g2
                  obtain ⟨⟨w', hw', ow'⟩, _⟩ := m2.ow i _ _ hi
                  rw [hw] at hw'
                  cases hw'
                  rw [hAA] at ow'
                  have oa2 : OwnAll (gOf X) F2 H2 s.kid 0 ws vs A' := oa.keep (g2.keep (fun y hy => (oa.there y hy).2) oa.nt)
                  obtain ⟨w3, B3, c1, c2, c3, c4⟩ := oa2.setAt (d' := .dic (setK ks us n2 q d).1 (setK ks us n2 q d).2) n hvs
                  rw [b1] at c1
                  cases c1
                  rw [Nat.zero_add, hfl] at c2 c4
                  have fp0 : F2 p = none := by
                    cases c2 with
                    | dic _ _ y _ _ _ _ _ _ _ => exact y
                  have eB : B3 = [p] := by
                    cases c2 with
                    | dic _ _ _ _ _ _ _ _ rb2 _ => obtain ⟨rfl, _⟩ := rb2.to_rep; rfl
                  subst eB
                  have oo := c4 p (.ext (isObj' p ob')) (by simp) (Own.dr upd_same fp0 z1 dd' dr')
                  have pA : p ∈ A' := c3 p (by simp)
                  have hap : a ≠ p := fun z => na (z ▸ pA)
                  obtain ⟨fp', m3⟩ := m2.write hi hw (by rw [hAA]; exact List.mem_cons_of_mem _ pA) (Own.obj (dx := dx) so (by rw [upd_ne hap]; exact g2.h.at _ _ ha) (by
                    cases zz : F2 a with
                    | none => rfl
                    | some u2 =>
                      rcases g2.new a u2 zz with y | y
                      · rw [fa] at y; cases y
                      · rw [ha] at y; cases y) hz oo na) fun y hy => .inl (by rw [hAA]; exact hy)
                  exact o2 fp' F2 σ _ (Same.refl _) m3
                · exact o2.elim
              · exact o2.elim
        · exact o'.elim
      · exact o'.elim
    · exact o'.elim⟩
end
end Mir
namespace Mir
open PySem PySem.Spec PyProof.Rows L2
variable [Tn]
theorem okQ_dic {n : Nat} {ks vs : List D} : okQ n (.dic ks vs) = false := by cases n <;> rfl
theorem eqD_S {a b : D} (h : ∀ ks vs, a ≠ .dic ks vs) : eqD a b = eqS a b := by
  unfold eqD
  split
  · exact absurd rfl (h _ _)
  · rfl
theorem neD_S {a b : D} (h : ∀ ks vs, a ≠ .dic ks vs) : neD a b = neS a b := by
  unfold neD
  split
  · exact absurd rfl (h _ _)
  · rfl
theorem eqD_ok {a b : D} (ha : okQ 64 a = true) (hb : okQ 64 b = true) : eqD a b = .ok (.bl (eqQ a b)) := by
  rw [eqD_S (fun ks vs e => by subst e; rw [okQ_dic] at ha; cases ha)]
  exact eqS_ok ha hb
theorem neD_ok {a b : D} (ha : okQ 64 a = true) (hb : okQ 64 b = true) : neD a b = .ok (.bl (!eqQ a b)) := by
  rw [neD_S (fun ks vs e => by subst e; rw [okQ_dic] at ha; cases ha)]
  exact neS_ok ha hb
@[simp] theorem eqD_int (i j : Int) : eqD (.int i) (.int j) = .ok (.bl (decide (i = j))) := eqS_int i j
@[simp] theorem neD_int (i j : Int) : neD (.int i) (.int j) = .ok (.bl (!decide (i = j))) := neS_int i j
@[simp] theorem ixD_lst (xs : List D) (i : Int) : ixD (.lst xs) (.int i) = match atI xs i with
    | some d => .ok d
    | none => .bad := rfl
@[simp] theorem ixD_tup (xs : List D) (i : Int) : ixD (.tup xs) (.int i) = match atI xs i with
    | some d => .ok d
    | none => .bad := rfl
@[simp] theorem ixD_scr (ns : List Int) (i : Int) : ixD (.scr ns) (.int i) = match atI ns i with
    | some n => .ok (.int n)
    | none => .bad := rfl
theorem atI_nat {α : Type} (xs : List α) (i : Nat) (h : i < xs.length) : atI xs (i : Int) = xs[i]? := by
  unfold atI ixN
  rw [if_pos (Int.natCast_nonneg i), if_pos (by omega)]
  rfl
theorem atI_int {α : Type} (xs : List α) (i : Int) (h0 : 0 ≤ i) (h : i < xs.length) : atI xs i = xs[i.toNat]? := by
  have e : i = ((i.toNat : Nat) : Int) := by omega
  rw [e, atI_nat xs i.toNat (by omega)]
  rfl
theorem ixD_tI {xs : List Int} {i : Nat} (h : i < xs.length) : ixD (tuI xs) (.int (i : Nat)) = .ok (.int (xs.getD i 0)) := by
  have e : xs[i]? = some (xs.getD i 0) := by rw [List.getD_eq_getElem?_getD, List.getElem?_eq_getElem h]; rfl
  rw [ixD_tup, atI_nat _ _ (by simpa using h), List.getElem?_map, e]
  rfl
theorem atI_getD {ns : List Int} {i : Int} (h0 : 0 ≤ i) (h1 : i < ns.length) : atI ns i = some (ns.getD i.toNat 0) := by
  rw [atI_int ns i h0 h1, List.getD_eq_getElem?_getD, List.getElem?_eq_getElem (by omega)]
  rfl
/-- one of a row of data by a rest -/
theorem ixD_pick {xs : List D} (c : Int) (n : Int) (hn : n = xs.length) (h0 : 0 < n) : ∃ d, d ∈ xs ∧ ixD (.lst xs) (.int (c % n)) = .ok d := by
  have h1 := Int.emod_nonneg c (b := n) (by omega)
  have h2 := Int.emod_lt_of_pos c (b := n) h0
  have hl : (c % n).toNat < xs.length := by omega
  refine ⟨xs[(c % n).toNat], List.getElem_mem hl, ?_⟩
  rw [ixD_lst, atI_int xs _ h1 (by omega), List.getElem?_eq_getElem hl]
@[simp] theorem bits0 : bits 0 = 0 := rfl
theorem bits_lt {i : Int} {n : Nat} (hn : 0 < n) (h : i.natAbs < 2 ^ n) : bits i < n := by
  unfold bits
  by_cases h0 : i.natAbs = 0
  · rw [h0]; simpa using hn
  · exact (Nat.log2_lt h0).mpr h
theorem zipL3_ints (xs ys zs : List Int) : zipL3 (xs.map D.int) (ys.map D.int) (zs.map D.int) = (xs.zip (ys.zip zs)).map fun p => .tup [.int p.1, .int p.2.1, .int p.2.2] := by
  unfold zipL3
  rw [List.zip_map, List.zip_map, List.map_map]
  rfl
theorem lcD_gmap {α : Type} {g : D → Env → Res Env} {t : Env → Res Bool} {f : Env → Res D} {r : Env} (A : α → D) (F : α → D) : ∀ {xs : List α}, (∀ a ∈ xs, ∃ r1, g (A a) r = .ok r1 ∧ t r1 = .ok true ∧ f r1 = .ok (F a)) → lcD g t f r (xs.map A) = .ok (xs.map F)
  | [], _ => rfl
  | a :: xs, h => by
    obtain ⟨r1, h1, h2, h3⟩ := h a List.mem_cons_self
    rw [List.map_cons, lcD, h1]
    simp only [nE_ok, ok_bind, h2, if_true, h3, lcD_gmap A F fun d hd => h d (List.mem_cons_of_mem _ hd)]
    rfl
theorem lcD_zip3 {t : Env → Res Bool} {f : Env → Res D} {r : Env} {i j k : Nat} {xs ys zs : List Int} (F : Int × Int × Int → D) (h : ∀ p ∈ xs.zip (ys.zip zs), t (((r.set i (.sh (.int p.1))).set j (.sh (.int p.2.1))).set k (.sh (.int p.2.2))) = .ok true ∧ f (((r.set i (.sh (.int p.1))).set j (.sh (.int p.2.1))).set k (.sh (.int p.2.2))) = .ok (F p)) :
    lcD (tupG 3 (consG (nameG i) (consG (nameG j) (consG (nameG k) nilG)))) t f r (zipL3 (xs.map D.int) (ys.map D.int) (zs.map D.int)) = .ok ((xs.zip (ys.zip zs)).map F) := by
  rw [zipL3_ints]
  exact lcD_gmap (fun p : Int × Int × Int => .tup [.int p.1, .int p.2.1, .int p.2.2]) F fun p hp => ⟨_, rfl, h p hp⟩
/-- one name, over anything -/
theorem lcD_one {α : Type} {t : Env → Res Bool} {f : Env → Res D} {r : Env} {i : Nat} (A : α → D) (F : α → D) {xs : List α} (h : ∀ a ∈ xs, t (r.set i (.sh (A a))) = .ok true ∧ f (r.set i (.sh (A a))) = .ok (F a)) : lcD (nameG i) t f r (xs.map A) = .ok (xs.map F) :=
  lcD_gmap A F fun a ha => ⟨_, rfl, h a ha⟩
theorem rangeL_nat (n : Nat) : rangeL 0 n = (List.range n).map fun i : Nat => D.int i := by
  unfold rangeL
  exact List.map_congr_left fun i _ => by rw [Int.zero_add]
theorem lcD_range {t : Env → Res Bool} {f : Env → Res D} {r : Env} {i : Nat} (F : Nat → D) {n : Nat} (h : ∀ k, k < n → t (r.set i (.sh (.int (k : Nat)))) = .ok true ∧ f (r.set i (.sh (.int (k : Nat)))) = .ok (F k)) : lcD (nameG i) t f r (rangeL 0 n) = .ok ((List.range n).map F) := by
  rw [rangeL_nat]
  exact lcD_one (fun k : Nat => D.int k) F fun k hk => h k (List.mem_range.mp hk)
/-- a walk that gives up at the first of its kind -/
theorem forD_any {f : D → Env → Oc} (P : Env → Prop) (b : D → Bool) (v : D) : ∀ {ds : List D} {r : Env}, (∀ d ∈ ds, ∀ r, P r → if b d = true then f d r = .rt v else ∃ r', f d r = .nx r' ∧ P r') → P r → if ds.any b = true then forD f ds r = .rt v else ∃ r', forD f ds r = .nx r' ∧ P r'
  | [], r, _, hp => by simpa using hp
  | d :: ds, r, h, hp => by
    have h1 := h d List.mem_cons_self r hp
    rw [List.any_cons]
    cases hb : b d with
    | true =>
      rw [hb, if_pos rfl] at h1
      rw [Bool.true_or, if_pos rfl, forD_cons, h1]
    | false =>
      rw [hb, if_neg (by simp)] at h1
      obtain ⟨r1, e, p1⟩ := h1
      rw [Bool.false_or, forD_cons, e]
      exact forD_any P b v (fun x hx => h x (List.mem_cons_of_mem _ hx)) p1
@[simp] theorem atI0 {α : Type} (a : α) (xs : List α) : atI (a :: xs) 0 = some a := by
  rw [show (0 : Int) = ((0 : Nat) : Int) from rfl, atI_nat _ _ (by simp)]
  rfl
@[simp] theorem atI1 {α : Type} (a b : α) (xs : List α) : atI (a :: b :: xs) 1 = some b := by
  rw [show (1 : Int) = ((1 : Nat) : Int) from rfl, atI_nat _ _ (by simp)]
  rfl
@[simp] theorem atI2 {α : Type} (a b c : α) (xs : List α) : atI (a :: b :: c :: xs) 2 = some c := by
  rw [show (2 : Int) = ((2 : Nat) : Int) from rfl, atI_nat _ _ (by simp)]
  rfl
@[simp] theorem addD_tup (xs ys : List D) : addD (.tup xs) (.tup ys) = if xs.length + ys.length ≤ lim then .ok (.tup (xs ++ ys)) else .bad := rfl
@[simp] theorem addD_lst (xs ys : List D) : addD (.lst xs) (.lst ys) = if xs.length + ys.length ≤ lim then .ok (.lst (xs ++ ys)) else .bad := rfl
@[simp] theorem sliceD_tup (xs : List D) (lo hi : Option Int) : sliceD (.tup xs) lo hi = .ok (.tup (cutD xs lo hi)) := rfl
@[simp] theorem sliceD_lst (xs : List D) (lo hi : Option Int) : sliceD (.lst xs) lo hi = .ok (.lst (cutD xs lo hi)) := rfl
/-- names that one owns are shared ahead of a statement -/
def frzAt (i : Nat) (g : Env → Oc) (r : Env) : Oc := g (freeze i r)
@[simp] theorem frzAt_eq (i : Nat) (g : Env → Oc) (r : Env) : frzAt i g r = g (freeze i r) := rfl
theorem rs_frz (i : Nat) {X : Cx} {W : Wi} {k : Kd} {s : Stmt} {g : Env → Oc} (h : RS X W k s g) : RS X W k s (fun r => frzAt i g r) := rs_freeze i h
end Mir
namespace Mir
open PySem PySem.Spec PyProof.Rows L2
variable [Tn]
def kI (x : List Int) : NestedKey := .tup (x.map .num)
theorem keysOf_ints : ∀ x : List Int, keyOf.keysOf (x.map D.int) = some (x.map .num)
  | [] => by simp [keyOf.keysOf]
  | i :: x => by rw [List.map_cons, keyOf.keysOf, keysOf_ints x]; simp [keyOf]
theorem keyOf_tuI (x : List Int) : keyOf (tuI x) = some (kI x) := by
  show (keyOf.keysOf (x.map D.int)).map NestedKey.tup = _
  rw [keysOf_ints]
  rfl
theorem depth_nums : ∀ x : List Int, NestedKey.depthAll (x.map NestedKey.num) = 0
  | [] => by simp [NestedKey.depthAll]
  | i :: x => by rw [List.map_cons, NestedKey.depthAll, depth_nums x]; simp [NestedKey.depth]
theorem depth_kI (x : List Int) : (kI x).depth = 1 := by
  unfold kI
  rw [NestedKey.depth, depth_nums]
theorem kI_inj {x y : List Int} (h : kI x = kI y) : x = y := by
  unfold kI at h
  injection h with h
  have z : ∀ x y : List Int, x.map NestedKey.num = y.map NestedKey.num → x = y := fun x => by
    induction x with
    | nil => intro y h; cases y with
      | nil => rfl
      | cons a b => cases h
    | cons a x ih =>
      intro y h
      cases y with
      | nil => cases h
      | cons b y =>
        rw [List.map_cons, List.map_cons] at h
        injection h with h1 h2
        injection h1 with h1
        rw [h1, ih y h2]
  exact z x y h
/-- data as keys -/
structure KeyE {α : Type} (E : α → D) (Q : α → NestedKey) : Prop where
  t : ∀ a, keyT (E a) = some (Q a)
  inj : ∀ a b, Q a = Q b → a = b
theorem KeyE.of {α : Type} {E : α → D} {Q : α → NestedKey} (K : KeyE E Q) (a : α) : keyOf (E a) = some (Q a) := (keyT_some (K.t a)).2.1
theorem keyE : KeyE tuI kI := ⟨fun x => by
  unfold keyT
  simp only [keyOf_tuI, depth_kI]
  rfl, fun _ _ => kI_inj⟩
abbrev pkD (p : List Int × List Int) : D := .tup [tuI p.1, tuI p.2]
def kP (p : List Int × List Int) : NestedKey := .tup [kI p.1, kI p.2]
theorem keyP : KeyE pkD kP := ⟨fun p => by
  have e : keyOf (pkD p) = some (kP p) := by
    show (keyOf.keysOf [tuI p.1, tuI p.2]).map NestedKey.tup = _
    rw [keyOf.keysOf, keyOf_tuI, keyOf.keysOf, keyOf_tuI, keyOf.keysOf]
    rfl
  have d : (kP p).depth = 2 := by
    unfold kP
    rw [NestedKey.depth, NestedKey.depthAll, NestedKey.depthAll, NestedKey.depthAll, depth_kI, depth_kI]
    rfl
  unfold keyT
  simp only [e, d]
  rfl, fun p q h => by
  unfold kP at h
  injection h with h
  injection h with h1 h
  injection h with h2 _
  exact Prod.ext (kI_inj h1) (kI_inj h2)⟩
section
variable {α β : Type} [DecidableEq α]
def lookA (l : List (α × β)) (a : α) : Option β := (l.find? fun p => decide (p.1 = a)).map (·.2)
def hasA (l : List (α × β)) (a : α) : Bool := l.any fun p => decide (p.1 = a)
def setA (l : List (α × β)) (a : α) (b : β) : List (α × β) := if hasA l a = true then l.map (fun p => if p.1 = a then (p.1, b) else p) else l ++ [(a, b)]
def dicA (E : α → D) (V : β → D) (l : List (α × β)) : D := .dic (l.map fun p => E p.1) (l.map fun p => V p.2)
variable {E : α → D} {V : β → D} {Q : α → NestedKey}
theorem getK_A (K : KeyE E Q) (a : α) : ∀ l : List (α × β), getK (l.map fun p => E p.1) (l.map fun p => V p.2) (Q a) = (lookA l a).map V
  | [] => by simp [getK, lookA]
  | p :: l => by
    rw [List.map_cons, List.map_cons, getK, K.of]
    unfold lookA
    rw [List.find?_cons]
    by_cases h : p.1 = a
    · rw [if_pos (by rw [h]), decide_eq_true h]
      rfl
    · rw [if_neg (fun z => h (K.inj _ _ (Option.some.inj z))), decide_eq_false h, getK_A K a l]
      rfl
theorem hasK_A (K : KeyE E Q) (a : α) (l : List (α × β)) : hasK (l.map fun p => E p.1) (Q a) = hasA l a := by
  unfold hasK hasA
  rw [List.any_map]
  congr 1
  funext p
  simp only [Function.comp, K.of]
  by_cases h : p.1 = a
  · rw [decide_eq_true h, decide_eq_true (by rw [h])]
  · rw [decide_eq_false h, decide_eq_false (fun z => h (K.inj _ _ (Option.some.inj z)))]
theorem repK_A (K : KeyE E Q) (a : α) (b : β) : ∀ l : List (α × β), repK (l.map fun p => E p.1) (l.map fun p => V p.2) (Q a) (V b) = (l.map fun p => if p.1 = a then (p.1, b) else p).map fun p => V p.2
  | [] => by simp [repK]
  | p :: l => by
    rw [List.map_cons, List.map_cons, repK, K.of, repK_A K a b l, List.map_cons, List.map_cons]
    congr 1
    by_cases h : p.1 = a
    · rw [if_pos (by rw [h]), if_pos h]
    · rw [if_neg (fun z => h (K.inj _ _ (Option.some.inj z))), if_neg h]
theorem setK_A (K : KeyE E Q) (a : α) (b : β) (l : List (α × β)) : setK (l.map fun p => E p.1) (l.map fun p => V p.2) (E a) (Q a) (V b) = ((setA l a b).map fun p => E p.1, (setA l a b).map fun p => V p.2) := by
  unfold setK setA
  rw [hasK_A K]
  by_cases h : hasA l a = true
  · rw [if_pos h, if_pos h, repK_A K]
    have e : (l.map fun p => E p.1) = (l.map fun p => if p.1 = a then (p.1, b) else p).map fun p => E p.1 := by
      rw [List.map_map]
      refine List.map_congr_left fun p _ => ?_
      show E p.1 = E (if p.1 = a then (p.1, b) else p).1
      split <;> rfl
    rw [← e]
  · rw [if_neg h, if_neg h, List.map_append, List.map_append]
    rfl
theorem ixD_A (K : KeyE E Q) (l : List (α × β)) (a : α) {b : β} (h : lookA l a = some b) : ixD (dicA E V l) (E a) = .ok (V b) := by
  unfold ixD dicA
  simp only [K.t, getK_A K, h]
  rfl
theorem notInD_A (K : KeyE E Q) (l : List (α × β)) (a : α) : notInD (E a) (dicA E V l) = .ok (.bl (!hasA l a)) := by
  unfold notInD dicA
  simp only [K.t, hasK_A K]
theorem setD_A (K : KeyE E Q) (l : List (α × β)) (a : α) (b : β) (hl : l.length < lim) : setD (dicA E V l) (E a) (V b) = .ok (dicA E V (setA l a b)) := by
  unfold setD dicA
  simp only [K.t, List.length_map, hl, if_true, setK_A K]
theorem setK_A' (K : KeyE E Q) (l : List (α × β)) (a : α) (b : β) : D.dic (setK (l.map fun p => E p.1) (l.map fun p => V p.2) (E a) (Q a) (V b)).1 (setK (l.map fun p => E p.1) (l.map fun p => V p.2) (E a) (Q a) (V b)).2 = dicA E V (setA l a b) := by
  rw [setK_A K]
  rfl
@[simp] theorem lenD_A (l : List (α × β)) : lenD (dicA E V l) = .ok (.int l.length) := by
  show Res.ok (D.int ((l.map fun p => E p.1).length : Nat)) = _
  rw [List.length_map]
@[simp] theorem itemsD_A (l : List (α × β)) : itemsD (dicA E V l) = .ok (l.map fun p => E p.1) := rfl
theorem setA_new {l : List (α × β)} {a : α} (b : β) (h : a ∉ l.map (·.1)) : setA l a b = l ++ [(a, b)] := by
  unfold setA
  rw [if_neg]
  unfold hasA
  rw [List.any_eq_true]
  rintro ⟨p, hp, e⟩
  exact h (List.mem_map.mpr ⟨p, hp, of_decide_eq_true e⟩)
theorem lookA_mem {l : List (α × β)} {a : α} {b : β} (hn : (l.map (·.1)).Nodup) (h : (a, b) ∈ l) : lookA l a = some b := by
  induction l with
  | nil => cases h
  | cons p l ih =>
    rw [List.map_cons, List.nodup_cons] at hn
    unfold lookA
    rw [List.find?_cons]
    rcases List.mem_cons.mp h with z | z
    · subst z
      rw [decide_eq_true rfl]
      rfl
    · have ne : p.1 ≠ a := fun e => hn.1 (by rw [e]; exact List.mem_map.mpr ⟨_, z, rfl⟩)
      rw [decide_eq_false ne]
      exact ih hn.2 z
theorem lookA_map {l : List α} (f : α → β) {a : α} (h : a ∈ l) : lookA (l.map fun x => (x, f x)) a = some (f a) := by
  induction l with
  | nil => cases h
  | cons x l ih =>
    unfold lookA
    rw [List.map_cons, List.find?_cons]
    by_cases e : x = a
    · subst e
      rw [decide_eq_true rfl]
      rfl
    · rw [decide_eq_false (by simpa using e)]
      rcases List.mem_cons.mp h with z | z
      · exact (e z.symm).elim
      · exact ih z
theorem hasA_map (l : List α) (f : α → β) (a : α) : hasA (l.map fun x => (x, f x)) a = decide (a ∈ l) := by
  unfold hasA
  rw [List.any_map, Bool.eq_iff_iff, List.any_eq_true, decide_eq_true_iff]
  constructor
  · rintro ⟨x, hx, e⟩
    have e' : x = a := of_decide_eq_true e
    rw [← e']
    exact hx
  · intro h
    exact ⟨a, h, decide_eq_true rfl⟩
/-- a table told by a function on a row of keys -/
abbrev dicF (E : α → D) (V : β → D) (l : List α) (f : α → β) : D := dicA E V (l.map fun x => (x, f x))
end
def memsStep (found : List (List Int)) (n : Int) : List (List Int) := found.flatMap fun x => (List.range n.toNat).map fun i : Nat => x ++ [(i : Int)]
def mems (rs : List Int) : List (List Int) := rs.foldl memsStep [[]]
def prs (rs : List Int) : List (List Int × List Int) := (mems rs).flatMap fun x => (mems rs).map fun y => (x, y)
theorem mem_prs {rs x y : List Int} : (x, y) ∈ prs rs ↔ x ∈ mems rs ∧ y ∈ mems rs := by
  unfold prs
  rw [List.mem_flatMap]
  constructor
  · rintro ⟨a, ha, h⟩
    obtain ⟨b, hb, e⟩ := List.mem_map.mp h
    injection e with e1 e2
    subst e1 e2
    exact ⟨ha, hb⟩
  · rintro ⟨h1, h2⟩
    exact ⟨x, h1, List.mem_map.mpr ⟨y, h2, rfl⟩⟩
end Mir
namespace Mir
open PySem PySem.Spec PyProof.Rows L2
variable [Tn]
/-- a group by rounds -/
abbrev gR (rs : List Int) : D := .obj 0 [tuI rs]
/-- rounds that make a group -/
structure OkR (rs : List Int) : Prop where
  two : ∀ n ∈ rs, 2 ≤ n
  len : rs.length ≤ 7
structure OkE (rs x : List Int) : Prop where
  len : x.length = rs.length
  at_ : ∀ p ∈ x.zip rs, 0 ≤ p.1 ∧ p.1 < p.2
theorem fld_rounds (rs : List Int) : fldD (plOf [0] "rounds") (gR rs) = .ok (tuI rs) := by
  have e : plOf [0] "rounds" 0 = some 0 := by kernel_rfl
  unfold fldD
  simp [e]
theorem is_tuple (cs us : List Nat) (xs : List D) : isD cs us (.tup xs) (.ty "tuple") = .ok (.bl true) := rfl
theorem mem_zip2 {xs ys : List Int} {d : D} (h : d ∈ zipL2 (xs.map D.int) (ys.map D.int)) : ∃ p ∈ xs.zip ys, d = .tup [.int p.1, .int p.2] := by
  unfold zipL2 at h
  rw [List.zip_map, List.map_map] at h
  obtain ⟨p, hp, e⟩ := List.mem_map.mp h
  exact ⟨p, hp, e.symm⟩
/-- the sum by rounds -/
def putV (rs x y : List Int) : List Int := (x.zip (y.zip rs)).map fun p => (p.1 + p.2.1) % p.2.2
def backV (rs x : List Int) : List Int := (x.zip rs).map fun p => (0 - p.1) % p.2
def zeroV (rs : List Int) : List Int := rs.map fun _ => 0
theorem putV_len {rs x y : List Int} (h1 : x.length = rs.length) (h2 : y.length = rs.length) : (putV rs x y).length = rs.length := by simp [putV, h1, h2]
theorem put_el {rs x y : List Int} (h : OkR rs) (h1 : x.length = rs.length) (h2 : y.length = rs.length) : OkE rs (putV rs x y) := by
  refine ⟨putV_len h1 h2, fun p hp => ?_⟩
  obtain ⟨i, hi⟩ := List.getElem?_of_mem hp
  obtain ⟨g1, g2⟩ := List.getElem?_zip_eq_some.mp hi
  unfold putV at g1
  rw [List.getElem?_map, Option.map_eq_some_iff] at g1
  obtain ⟨q, hq, e⟩ := g1
  obtain ⟨_, q2⟩ := List.getElem?_zip_eq_some.mp hq
  obtain ⟨_, q3⟩ := List.getElem?_zip_eq_some.mp q2
  have en : q.2.2 = p.2 := Option.some.inj (q3.symm.trans g2)
  have t : (2 : Int) ≤ p.2 := h.two _ (List.of_mem_zip hp).2
  rw [← e, en]
  exact ⟨Int.emod_nonneg _ (by omega), Int.emod_lt_of_pos _ (by omega)⟩
theorem backV_len {rs x : List Int} (h1 : x.length = rs.length) : (backV rs x).length = rs.length := by simp [backV, h1]
theorem back_el {rs x : List Int} (h : OkR rs) (h1 : x.length = rs.length) : OkE rs (backV rs x) := by
  refine ⟨backV_len h1, fun p hp => ?_⟩
  obtain ⟨i, hi⟩ := List.getElem?_of_mem hp
  obtain ⟨g1, g2⟩ := List.getElem?_zip_eq_some.mp hi
  unfold backV at g1
  rw [List.getElem?_map, Option.map_eq_some_iff] at g1
  obtain ⟨q, hq, e⟩ := g1
  obtain ⟨_, q3⟩ := List.getElem?_zip_eq_some.mp hq
  have en : q.2 = p.2 := Option.some.inj (q3.symm.trans g2)
  have t : (2 : Int) ≤ p.2 := h.two _ (List.of_mem_zip hp).2
  rw [← e, en]
  exact ⟨Int.emod_nonneg _ (by omega), Int.emod_lt_of_pos _ (by omega)⟩
theorem zero_el {rs : List Int} (h : OkR rs) : OkE rs (zeroV rs) := by
  refine ⟨by simp [zeroV], fun p hp => ?_⟩
  obtain ⟨q1, q2⟩ := List.of_mem_zip hp
  unfold zeroV at q1
  obtain ⟨n, _, e⟩ := List.mem_map.mp q1
  have t : (2 : Int) ≤ p.2 := h.two _ q2
  omega
/-- a while that goes down: k turns at most -/
theorem whileD_down {c : Env → Res Bool} {b : Env → Oc} (P : Nat → Env → Prop) (Q : Env → Prop) (step : ∀ k r, P k r → (c r = .ok false ∧ Q r) ∨ (∃ j r', k = j + 1 ∧ c r = .ok true ∧ b r = .nx r' ∧ P j r')) :
    ∀ (k N : Nat) (r : Env), P k r → k < N → ∃ r', whileD c b N r = .nx r' ∧ Q r' := fun k => by
  induction k with
  | zero =>
    intro N r hP hN
    obtain ⟨M, rfl⟩ : ∃ M, N = M + 1 := ⟨N - 1, by omega⟩
    rcases step 0 r hP with ⟨h1, h2⟩ | ⟨j, r', h, _⟩
    · exact ⟨r, by rw [whileD, h1]; rfl, h2⟩
    · omega
  | succ k ih =>
    intro N r hP hN
    obtain ⟨M, rfl⟩ : ∃ M, N = M + 1 := ⟨N - 1, by omega⟩
    rcases step (k + 1) r hP with ⟨h1, h2⟩ | ⟨j, r', h, h1, h2, h3⟩
    · exact ⟨r, by rw [whileD, h1]; rfl, h2⟩
    · obtain rfl : k = j := by omega
      obtain ⟨r2, q1, q2⟩ := ih M r' h3 (by omega)
      refine ⟨r2, ?_, q2⟩
      rw [whileD, h1]
      simp only [lift_ok, if_true, h2]
      exact q1
theorem loopD_down {c : Env → Res Bool} {b : Env → Oc} (P : Nat → Env → Prop) (Q : Env → Prop) (step : ∀ k r, P k r → (c r = .ok false ∧ Q r) ∨ (∃ j r', k = j + 1 ∧ c r = .ok true ∧ b r = .nx r' ∧ P j r'))
    {k : Nat} {r : Env} (h : P k r) (hk : k < 1000000) : ∃ r', loopD c b r = .nx r' ∧ Q r' := by
  unfold loopD
  rw [turns_eq]
  exact whileD_down P Q step k _ r h hk
/-- so many times -/
def timesV (rs : List Int) (n : Int) (x : List Int) : List Int := (x.zip rs).map fun p => n * p.1 % p.2
/-- rounds that the program takes -/
structure OkG (rs : List Int) : Prop where
  ok : OkR rs
  most : ∀ n ∈ rs, n ≤ 144
  prod : rs.foldl (· * ·) 1 ≤ 144
theorem take_more {α : Type} {l : List α} {i : Nat} {x : α} (h : l[i]? = some x) : l.take (i + 1) = l.take i ++ [x] := by
  rw [List.take_add_one, h]
  rfl
theorem is_seq (src : D) (rs : List Int) (h : src = tuI rs ∨ src = liI rs) (cs us : List Nat) : isD cs us src (.tup [.ty "list", .ty "tuple"]) = .ok (.bl true) := by
  rcases h with rfl | rfl <;> kernel_rfl
theorem runI_nx {p n c : Nat} {g : Env → Oc} {ds : List D} {r : Env} (h : ds.length = p) (e : g (startI n c ds) = .nx r) : runI p n c g ds = selfR r := by
  unfold runI
  rw [if_pos h, e]
theorem getD_zip {xs ys : List Int} {f : Int × Int → Int} {i : Nat} (h1 : i < xs.length) (h2 : i < ys.length) : ((xs.zip ys).map f).getD i 0 = f (xs.getD i 0, ys.getD i 0) := by
  have e1 : xs[i]? = some (xs.getD i 0) := by rw [List.getD_eq_getElem?_getD, List.getElem?_eq_getElem h1]; rfl
  have e2 : ys[i]? = some (ys.getD i 0) := by rw [List.getD_eq_getElem?_getD, List.getElem?_eq_getElem h2]; rfl
  have e3 : (xs.zip ys)[i]? = some (xs.getD i 0, ys.getD i 0) := List.getElem?_zip_eq_some.mpr ⟨e1, e2⟩
  rw [List.getD_eq_getElem?_getD, List.getElem?_map, e3]
  rfl
theorem putV_at {rs x y : List Int} {i : Nat} (hi : i < rs.length) (h1 : x.length = rs.length) (h2 : y.length = rs.length) : (putV rs x y).getD i 0 = (x.getD i 0 + y.getD i 0) % rs.getD i 0 := by
  have e1 : x[i]? = some (x.getD i 0) := by rw [List.getD_eq_getElem?_getD, List.getElem?_eq_getElem (by omega)]; rfl
  have e2 : y[i]? = some (y.getD i 0) := by rw [List.getD_eq_getElem?_getD, List.getElem?_eq_getElem (by omega)]; rfl
  have e3 : rs[i]? = some (rs.getD i 0) := by rw [List.getD_eq_getElem?_getD, List.getElem?_eq_getElem hi]; rfl
  have e4 : (x.zip (y.zip rs))[i]? = some (x.getD i 0, y.getD i 0, rs.getD i 0) := List.getElem?_zip_eq_some.mpr ⟨e1, List.getElem?_zip_eq_some.mpr ⟨e2, e3⟩⟩
  unfold putV
  rw [List.getD_eq_getElem?_getD, List.getElem?_map, e4]
  rfl
theorem ext_getD {xs ys : List Int} (hl : xs.length = ys.length) (h : ∀ i, i < ys.length → xs.getD i 0 = ys.getD i 0) : xs = ys := by
  apply List.ext_getElem hl
  intro i h1 h2
  have := h i h2
  rw [List.getD_eq_getElem?_getD, List.getD_eq_getElem?_getD, List.getElem?_eq_getElem h1, List.getElem?_eq_getElem h2] at this
  exact this
theorem OkE.get {rs x : List Int} (h : OkE rs x) {i : Nat} (hi : i < rs.length) : 0 ≤ x.getD i 0 ∧ x.getD i 0 < rs.getD i 0 := by
  have e1 : x[i]? = some (x.getD i 0) := by rw [List.getD_eq_getElem?_getD, List.getElem?_eq_getElem (by rw [h.len]; exact hi)]; rfl
  have e3 : rs[i]? = some (rs.getD i 0) := by rw [List.getD_eq_getElem?_getD, List.getElem?_eq_getElem hi]; rfl
  exact h.at_ _ (List.mem_of_getElem? (List.getElem?_zip_eq_some.mpr ⟨e1, e3⟩ : (x.zip rs)[i]? = some (x.getD i 0, rs.getD i 0)))
theorem OkR.get {rs : List Int} (h : OkR rs) {i : Nat} (hi : i < rs.length) : 2 ≤ rs.getD i 0 := by
  have e3 : rs[i]? = some (rs.getD i 0) := by rw [List.getD_eq_getElem?_getD, List.getElem?_eq_getElem hi]; rfl
  exact h.two _ (List.mem_of_getElem? e3)
theorem zeroV_at (rs : List Int) (i : Nat) : (zeroV rs).getD i 0 = 0 := by
  unfold zeroV
  rw [List.getD_eq_getElem?_getD, List.getElem?_map]
  cases rs[i]? <;> rfl
/-- what stays while the number is halved -/
structure TInv (rs x0 : List Int) (n0 n : Int) (x f : List Int) : Prop where
  lx : x.length = rs.length
  ef : OkE rs f
  nn : 0 ≤ n
  eq : ∀ i, i < rs.length → (f.getD i 0 + n * x.getD i 0) % rs.getD i 0 = n0 * x0.getD i 0 % rs.getD i 0
theorem half_even {f x m n : Int} (h1 : n % 2 = 0) : (f + n / 2 * ((x + x) % m)) % m = (f + n * x) % m := by
  have b := Int.emod_add_mul_ediv (x + x) m
  have c : n = 2 * (n / 2) := by omega
  have e : f + n * x = (f + n / 2 * ((x + x) % m)) + m * (n / 2 * ((x + x) / m)) := by
    have t1 : n / 2 * (x + x) = n / 2 * x + n / 2 * x := Int.mul_add ..
    have t2 : n * x = 2 * (n / 2 * x) := by
      have z : n * x = (2 * (n / 2)) * x := congrArg (· * x) c
      rw [z, Int.mul_assoc]
    have c2 : n * x = n / 2 * (x + x) := by omega
    rw [c2]
    conv => lhs; rw [← b]
    rw [Int.mul_add]
    have d : n / 2 * (m * ((x + x) / m)) = m * (n / 2 * ((x + x) / m)) := Int.mul_left_comm ..
    omega
  rw [e, Int.add_mul_emod_self_left]
theorem TInv.even {rs x0 x f : List Int} {n0 n : Int} (h : OkR rs) (v : TInv rs x0 n0 n x f) (o : n % 2 = 0) : TInv rs x0 n0 (n / 2) (putV rs x x) f where
  lx := putV_len v.lx v.lx
  ef := v.ef
  nn := by have := v.nn; omega
  eq := fun i hi => by
    rw [putV_at hi v.lx v.lx, half_even o]
    exact v.eq i hi
theorem timesV_at {rs x : List Int} {n : Int} {i : Nat} (hi : i < rs.length) (hl : x.length = rs.length) : (timesV rs n x).getD i 0 = n * x.getD i 0 % rs.getD i 0 := getD_zip (f := fun p => n * p.1 % p.2) (by omega) hi
theorem TInv.done {rs x0 x f : List Int} {n0 : Int} (h : OkR rs) (hl : x0.length = rs.length) (v : TInv rs x0 n0 0 x f) : f = timesV rs n0 x0 := by
  refine ext_getD (by rw [v.ef.len]; simp [timesV, hl]) fun i hi => ?_
  have hi' : i < rs.length := by simpa [timesV, hl] using hi
  have e := v.eq i hi'
  obtain ⟨a, b⟩ := v.ef.get hi'
  rw [Int.zero_mul, Int.add_zero, Int.emod_eq_of_lt a b] at e
  rw [e, timesV_at hi' hl]
theorem backV_at {rs x : List Int} {i : Nat} (hi : i < rs.length) (hl : x.length = rs.length) : (backV rs x).getD i 0 = (0 - x.getD i 0) % rs.getD i 0 := getD_zip (f := fun p => (0 - p.1) % p.2) (by omega) hi
theorem timesV_len (rs x : List Int) (n : Int) (hl : x.length = rs.length) : (timesV rs n x).length = rs.length := by simp [timesV, hl]
theorem times_succ {rs x : List Int} (hl : x.length = rs.length) (j : Nat) : putV rs (timesV rs j x) x = timesV rs ((j + 1 : Nat) : Int) x := ext_getD (by rw [putV_len (timesV_len rs x j hl) hl, timesV_len rs x _ hl]) fun i hi => by
  have hi' : i < rs.length := by rw [timesV_len rs x _ hl] at hi; exact hi
  rw [putV_at hi' (timesV_len rs x j hl) hl, timesV_at hi' hl, timesV_at hi' hl]
  have e : ((j + 1 : Nat) : Int) * x.getD i 0 = (j : Int) * x.getD i 0 + x.getD i 0 := by
    rw [Int.natCast_add, Int.add_mul]
    show _ + (1 : Int) * _ = _
    rw [Int.one_mul]
  rw [e, Int.emod_add_emod]
/-- what stays while rounds are drawn -/
structure RIM (most : Int) (i : Nat) (f : List Int) (left : Int) : Prop where
  len : f.length ≤ i
  two : ∀ n ∈ f, 2 ≤ n
  le : ∀ n ∈ f, n ≤ most
  one : 1 ≤ left
  prod : f.foldl (· * ·) 1 * left ≤ most
theorem RIM.mono {most : Int} {i : Nat} {f : List Int} {left : Int} (v : RIM most i f left) : RIM most (i + 1) f left := ⟨by have := v.len; omega, v.two, v.le, v.one, v.prod⟩
/-- things of a plain kind -/
def plainD : D → Bool
  | .non => true
  | .bl _ => true
  | .int _ => true
  | .str _ => true
  | .tup _ => true
  | .lst _ => true
  | .dic _ _ => true
  | _ => false
def isW : D → Bool
  | .int _ => true
  | _ => false
def inB : D → Int → Bool
  | .int i, m => decide (0 ≤ i) && decide (i < m)
  | _, _ => false
/-- whether a thing is an element -/
def elB (rs : List Int) : D → Bool
  | .tup ds => decide (ds.length = rs.length) && (ds.zip rs).all fun p => inB p.1 p.2
  | _ => false
/-- what is asked here -/
def plainT : D → Bool
  | .tup ds => ds.all plainD
  | d => plainD d
theorem is_tuple_any {d : D} (h : plainT d = true) (cs us : List Nat) : isD cs us d (.ty "tuple") = .ok (.bl (match d with | .tup _ => true | _ => false)) := by
  cases d <;> first | (cases h; done) | rfl
theorem mem_zip_any {ds : List D} {rs : List Int} {d : D} (h : d ∈ zipL2 ds (rs.map D.int)) : ∃ p ∈ ds.zip rs, d = .tup [p.1, .int p.2] := by
  unfold zipL2 at h
  rw [List.zip_map_right, List.map_map] at h
  obtain ⟨p, hp, e⟩ := List.mem_map.mp h
  exact ⟨p, hp, e.symm⟩
theorem any_zip {ds : List D} {rs : List Int} (f : D → Int → Bool) (g : D → Bool) (h : ∀ a i, g (.tup [a, .int i]) = f a i) : (zipL2 ds (rs.map D.int)).any g = (ds.zip rs).any fun p => f p.1 p.2 := by
  unfold zipL2
  rw [List.zip_map_right, List.map_map, List.any_map]
  congr 1
  funext p
  exact h p.1 p.2
end Mir
namespace Mir
open PySem PySem.Spec PyProof.Rows L2
variable [Tn]
theorem nodup_flat {α β : Type} {f : α → List β} : ∀ {l : List α}, (∀ a ∈ l, (f a).Nodup) → l.Pairwise (fun a b => ∀ x ∈ f a, x ∉ f b) → (l.flatMap f).Nodup
  | [], _, _ => by simp
  | a :: l, h, p => by
    rw [List.pairwise_cons] at p
    rw [List.flatMap_cons, List.nodup_append]
    refine ⟨h a List.mem_cons_self, nodup_flat (fun b hb => h b (List.mem_cons_of_mem _ hb)) p.2, fun x hx y hy e => ?_⟩
    subst e
    obtain ⟨b, hb, hy⟩ := List.mem_flatMap.mp hy
    exact p.1 b hb x hx hy
theorem nodup_inj {α β : Type} {f : α → β} (hf : ∀ a b, f a = f b → a = b) : ∀ {l : List α}, l.Nodup → (l.map f).Nodup
  | [], _ => by simp
  | a :: l, h => by
    rw [List.nodup_cons] at h
    rw [List.map_cons, List.nodup_cons]
    refine ⟨fun hm => ?_, nodup_inj hf h.2⟩
    obtain ⟨b, hb, e⟩ := List.mem_map.mp hm
    exact h.1 (hf _ _ e ▸ hb)
theorem sum_const {α : Type} (c : Nat) : ∀ l : List α, (l.map fun _ => c).sum = l.length * c
  | [] => by simp
  | a :: l => by rw [List.map_cons, List.sum_cons, sum_const c l, List.length_cons, Nat.succ_mul]; omega
theorem OkE.nil : OkE [] [] := ⟨rfl, fun _ h => nomatch h⟩
theorem OkE.cons {n i : Int} {rs t : List Int} : OkE (n :: rs) (i :: t) ↔ (0 ≤ i ∧ i < n) ∧ OkE rs t := by
  constructor
  · intro h
    refine ⟨h.at_ (i, n) (by simp), ⟨by have := h.len; simpa using this, fun p hp => h.at_ p (by rw [List.zip_cons_cons]; exact List.mem_cons_of_mem _ hp)⟩⟩
  · rintro ⟨h1, h2⟩
    refine ⟨by simp [h2.len], fun p hp => ?_⟩
    rw [List.zip_cons_cons] at hp
    rcases List.mem_cons.mp hp with z | z
    · subst z; exact h1
    · exact h2.at_ p z
theorem mem_fold : ∀ (rs : List Int) (S : List (List Int)) (x : List Int), x ∈ rs.foldl memsStep S ↔ ∃ s t, s ∈ S ∧ x = s ++ t ∧ OkE rs t
  | [], S, x => by
    rw [List.foldl_nil]
    constructor
    · intro h
      exact ⟨x, [], h, by simp, .nil⟩
    · rintro ⟨s, t, hs, rfl, ht⟩
      have : t = [] := List.length_eq_zero_iff.mp ht.len
      subst this
      simpa using hs
  | n :: rs, S, x => by
    rw [List.foldl_cons, mem_fold rs]
    constructor
    · rintro ⟨s, t, hs, rfl, ht⟩
      unfold memsStep at hs
      obtain ⟨a, ha, hs⟩ := List.mem_flatMap.mp hs
      obtain ⟨i, hi, rfl⟩ := List.mem_map.mp hs
      have := List.mem_range.mp hi
      exact ⟨a, (i : Int) :: t, ha, by simp, OkE.cons.mpr ⟨⟨by omega, by omega⟩, ht⟩⟩
    · rintro ⟨s, t, hs, rfl, ht⟩
      cases t with
      | nil => have := ht.len; simp at this
      | cons i t =>
        obtain ⟨⟨h1, h2⟩, h3⟩ := OkE.cons.mp ht
        refine ⟨s ++ [i], t, ?_, by simp, h3⟩
        unfold memsStep
        refine List.mem_flatMap.mpr ⟨s, hs, List.mem_map.mpr ⟨i.toNat, List.mem_range.mpr (by omega), ?_⟩⟩
        rw [Int.toNat_of_nonneg h1]
theorem mem_mems {rs x : List Int} : x ∈ mems rs ↔ OkE rs x := by
  unfold mems
  rw [mem_fold]
  constructor
  · rintro ⟨s, t, hs, rfl, ht⟩
    rw [List.mem_singleton.mp hs]
    simpa using ht
  · intro h
    exact ⟨[], x, by simp, by simp, h⟩
theorem step_len (S : List (List Int)) (n : Int) : (memsStep S n).length = S.length * n.toNat := by
  unfold memsStep
  rw [List.length_flatMap]
  simp [sum_const]
theorem fold_len : ∀ (rs : List Int) (S : List (List Int)), (∀ n ∈ rs, 0 ≤ n) → ((rs.foldl memsStep S).length : Int) = rs.foldl (· * ·) (S.length : Int)
  | [], S, _ => rfl
  | n :: rs, S, h => by
    rw [List.foldl_cons, List.foldl_cons, fold_len rs _ fun m hm => h m (List.mem_cons_of_mem _ hm), step_len]
    congr 1
    have := h n List.mem_cons_self
    rw [Int.natCast_mul, Int.toNat_of_nonneg this]
theorem mems_len {rs : List Int} (h : ∀ n ∈ rs, 0 ≤ n) : ((mems rs).length : Int) = rs.foldl (· * ·) 1 := by
  unfold mems
  rw [fold_len rs _ h]
  rfl
theorem fold_nodup : ∀ (rs : List Int) (S : List (List Int)) (k : Nat), S.Nodup → (∀ s ∈ S, s.length = k) → (rs.foldl memsStep S).Nodup
  | [], S, _, h, _ => h
  | n :: rs, S, k, h, hk => by
    rw [List.foldl_cons]
    refine fold_nodup rs _ (k + 1) ?_ fun s hs => ?_
    · unfold memsStep
      refine nodup_flat (fun s _ => ?_) ?_
      · refine nodup_inj (fun a b e => ?_) List.nodup_range
        have := List.append_cancel_left e
        have z : ((a : Nat) : Int) = b := by simpa using this
        omega
      · refine List.Pairwise.imp_of_mem (R := fun a b => a ≠ b) (fun {a b} ha hb ne => ?_) h
        intro x hx hy
        obtain ⟨i, _, rfl⟩ := List.mem_map.mp hx
        obtain ⟨j, _, e⟩ := List.mem_map.mp hy
        have := List.append_inj_left e (by rw [hk a ha, hk b hb])
        exact ne this.symm
    · unfold memsStep at hs
      obtain ⟨a, ha, hs⟩ := List.mem_flatMap.mp hs
      obtain ⟨i, _, rfl⟩ := List.mem_map.mp hs
      simp [hk a ha]
theorem mems_nodup (rs : List Int) : (mems rs).Nodup := fold_nodup rs [[]] 0 (by simp) (by simp)
theorem prs_nodup (rs : List Int) : (prs rs).Nodup := by
  unfold prs
  refine nodup_flat (fun x _ => ?_) ?_
  · exact nodup_inj (fun a b e => (Prod.mk.inj e).2) (mems_nodup rs)
  · refine List.Pairwise.imp (R := fun a b => a ≠ b) (fun {a b} ne => ?_) (mems_nodup rs)
    intro x hx hy
    obtain ⟨i, _, rfl⟩ := List.mem_map.mp hx
    obtain ⟨j, _, e⟩ := List.mem_map.mp hy
    exact ne (Prod.mk.inj e).1.symm
theorem dictD_F {α β : Type} [DecidableEq α] {E : α → D} {V : β → D} (l : List α) (f : α → β) (h : apartK (l.map E) = true) : dictD (dicF E V l f) = .ok (dicF E V l f) := by
  unfold dictD dicF dicA
  have e : ((l.map fun x => (x, f x)).map fun p => E p.1) = l.map E := by rw [List.map_map]; rfl
  simp only [e, h, if_true]
/-- a walk that gives up with what it finds first -/
theorem forD_find {α : Type} {f : D → Env → Oc} (A : α → D) (P : Env → Prop) (g : α → Option D) : ∀ {ds : List α} {r : Env}, (∀ a ∈ ds, ∀ r, P r → (∀ v, g a = some v → f (A a) r = .rt v) ∧ (g a = none → ∃ r', f (A a) r = .nx r' ∧ P r')) → P r →
    (∀ v, ds.findSome? g = some v → forD f (ds.map A) r = .rt v) ∧ (ds.findSome? g = none → ∃ r', forD f (ds.map A) r = .nx r' ∧ P r')
  | [], r, _, hp => ⟨fun v h => by simp at h, fun _ => ⟨r, rfl, hp⟩⟩
  | a :: ds, r, h, hp => by
    obtain ⟨h1, h2⟩ := h a List.mem_cons_self r hp
    rw [List.map_cons, forD_cons]
    cases hg : g a with
    | some v =>
      rw [List.findSome?_cons, hg, h1 v hg]
      exact ⟨fun w e => by cases e; rfl, fun e => by cases e⟩
    | none =>
      obtain ⟨r1, e, p1⟩ := h2 hg
      rw [List.findSome?_cons, hg, e]
      exact forD_find A P g (fun b hb => h b (List.mem_cons_of_mem _ hb)) p1
/-- a walk over a row, by places -/
theorem forD_row {α : Type} {pre0 : List α} {f : D → Env → Oc} (A : α → D) (P : List α → Env → Prop) : ∀ {ds : List α} {r : Env} {pre : List α}, (∀ (pre : List α) a, (pre ++ [a]) <+: pre0 → ∀ r, P pre r → ∃ r', f (A a) r = .nx r' ∧ P (pre ++ [a]) r') → pre ++ ds = pre0 → P pre r → ∃ r', forD f (ds.map A) r = .nx r' ∧ P (pre ++ ds) r'
  | [], r, pre, _, _, hp => ⟨r, rfl, by simpa using hp⟩
  | a :: ds, r, pre, h, he, hp => by
    obtain ⟨r1, e, p1⟩ := h pre a ⟨ds, by simpa using he⟩ r hp
    obtain ⟨r2, e2, p2⟩ := forD_row A P (pre := pre ++ [a]) (ds := ds) h (by simpa using he) p1
    refine ⟨r2, ?_, by simpa using p2⟩
    rw [List.map_cons, forD_cons, e]
    exact e2
/-- a table -/
def tabD (lo up : List Int) (c : List Int → List Int → List Int) : D := .obj 2 [gR lo, gR up, dicF pkD tuI (prs up) fun p => c p.1 p.2]
theorem runO_rt {p n : Nat} {g : Env → Oc} {ds : List D} {d : D} (h : ds.length = p) (e : g (startD n ds) = .rt d) : runO p n g ds = .ok d := by
  unfold runO
  rw [if_pos h, e]
theorem runO_er {p n : Nat} {g : Env → Oc} {ds : List D} {r : Env} {d : D} (h : ds.length = p) (e : g (startD n ds) = .er d r) : runO p n g ds = .er d := by
  unfold runO
  rw [if_pos h, e]
theorem enumL_els (xs : List (List Int)) : enumL (xs.map tuI) = xs.zipIdx.map fun p => .tup [.int (p.2 : Nat), tuI p.1] := by
  unfold enumL
  rw [List.zipIdx_map, List.map_map]
  rfl
theorem zipIdx_fst {α : Type} (xs : List α) : xs.zipIdx.map (·.1) = xs := by
  simp
theorem mem_zipIdx_lt {α : Type} {xs : List α} {p : α × Nat} (h : p ∈ xs.zipIdx) : p.1 ∈ xs ∧ p.2 < xs.length := by
  obtain ⟨a, i⟩ := p
  have := List.mem_zipIdx h
  simp at this
  exact ⟨by rw [this.2]; exact List.getElem_mem _, by omega⟩
end Mir
namespace Mir
open PySem PySem.Spec PyProof.Rows L2
variable [Tn]
theorem byRule {α β : Type} {L : List (α × β)} {g : α → β} (h : ∀ p ∈ L, p.2 = g p.1) : L = (L.map (·.1)).map fun a => (a, g a) := by
  rw [List.map_map]
  have e : ∀ p ∈ L, ((fun a => (a, g a)) ∘ (·.1)) p = p := fun p hp => by
    show (p.1, g p.1) = p
    rw [← h p hp]
  rw [List.map_congr_left e]
  simp
/-- the pairs of places, the lesser first -/
def placeRow (n i : Nat) : List (Nat × Nat) := (List.range (n - (i + 1))).map fun k => (i, i + 1 + k)
def placePairs (n : Nat) : List (Nat × Nat) := (List.range n).flatMap (placeRow n)
theorem mem_placePairs {n : Nat} {p : Nat × Nat} : p ∈ placePairs n ↔ p.1 < p.2 ∧ p.2 < n := by
  unfold placePairs placeRow
  rw [List.mem_flatMap]
  constructor
  · rintro ⟨i, hi, h⟩
    obtain ⟨k, hk, rfl⟩ := List.mem_map.mp h
    have := List.mem_range.mp hk
    exact ⟨by show i < i + 1 + k; omega, by show i + 1 + k < n; omega⟩
  · rintro ⟨h1, h2⟩
    refine ⟨p.1, List.mem_range.mpr (by omega), List.mem_map.mpr ⟨p.2 - (p.1 + 1), List.mem_range.mpr (by omega), ?_⟩⟩
    obtain ⟨a, b⟩ := p
    have h1 : a < b := h1
    show (a, a + 1 + (b - (a + 1))) = (a, b)
    rw [Nat.add_sub_cancel' h1]
/-- what carries are made of -/
structure OkP (lo up : List Int) (ps : List (List Int)) (L : List ((Nat × Nat) × List Int)) : Prop where
  len : ps.length = up.length
  ps : ∀ k, k < up.length → OkE lo (ps.getD k [])
  key : L.map (·.1) = placePairs up.length
  val : ∀ q ∈ L, OkE lo q.2
theorem OkP.at_ {lo up : List Int} {ps : List (List Int)} {L : List ((Nat × Nat) × List Int)} (h : OkP lo up ps L) {q : (Nat × Nat) × List Int} (hq : q ∈ L) : q.1.1 < q.1.2 ∧ q.1.2 < up.length := by
  have : q.1 ∈ placePairs up.length := by rw [← h.key]; exact List.mem_map.mpr ⟨q, hq, rfl⟩
  exact mem_placePairs.mp this
end Mir
namespace Mir
open PySem PySem.Spec PyProof.Rows L2
variable [Tn]
theorem drawsS {prog : Program} {w : World} {A : Around} (hh : A.handled = none) (k : Bool) (it l : Addr) (hne : l ≠ it) (items : Array Value) :
    Draws prog w A it [it, l] items.size (fun i v => items[i]? = some v) (fun i h => SIt h k it l i ∧ SSrc h k l items) where
  live := fun _ _ st => let ⟨o, ho, _⟩ := st.1.ob; ⟨o, ho⟩
  frame := fun _ _ _ st hk => ⟨st.1.at fun o e => hk it (by simp) o e, st.2.at fun o e => hk l (by simp) o e⟩
  item := fun i s Q E hi st hQ => by
    refine nextS_item st.1 st.2 (x := items[i]) (by simp [hi]) fun h' hit' hs' => ?_
    exact hQ _ h' s.toks (by simp [hi]) ⟨hit', st.2.at fun o e => hs'.extBut _ _ hne e⟩ hs'
  done := fun s Q E st hE => nextS_end hh st.1 st.2 (by simp) hE
abbrev eH1 (h : Heap) (k : Bool) (l : Addr) : Heap := h.push { cls := .type (clsI k), data := .fields #[.ref l, .int 0 0] }
abbrev eH2 (h : Heap) (k : Bool) (l : Addr) : Heap := (eH1 h k l).push { cls := .type "enumerate", data := .fields #[.none, .bool false, .ref h.objs.size, rawInt 0, .none, .none] }
theorem meets_enumS (k : Bool) (l : Addr) (items : Array Value) :
    Meets (Builtin.«enumerate.__new__» ⟨[.type "enumerate", .ref l], []⟩) (fun _ R s => SSrc s.heap k l items ∧
      R (.ok (.ret (.ref (eH1 s.heap k l).objs.size))) { s with heap := eH2 s.heap k l }) :=
  .of_wp fun prog w A R s h => by
    obtain ⟨hp, g, d, tk, os⟩ := s; obtain ⟨h1, h⟩ := h
    have hsub := sub_enumerate
    have q1 : ∀ {A' : Around} {E : Value → Shared → Prop} {Q : Value → Shared → Prop}, Q (.ref hp.objs.size) ⟨eH1 hp k l, g, d, tk, os⟩ → wpAny (model prog w) A' (pyIter (.ref l)) Q E ⟨hp, g, d, tk, os⟩ :=
      fun q => iterS (s := ⟨hp, g, d, tk, os⟩) h1 q
    wp_walk using q1
    refine wpAny_stack_any fun st => wpAny_pure ?_
    split
    · rename_i c _ _ _ _ _
      cases (c == Value.type "enumerate")
      · wp_walk using q1
        exact ⟨_, rfl, h⟩
      · wp_walk using q1
        exact ⟨_, rfl, h⟩
    · wp_walk using q1
      exact ⟨_, rfl, h⟩
section
variable {prog : Program} {w : World} {A : Around} {E : Value → Shared → Prop} {s : Shared}
theorem call_enumS {k : Bool} {l : Addr} {items : Array Value} {Q : Value → Shared → Prop} (hL : SSrc s.heap k l items)
    (h : ∀ h', IsEnum h' (s.heap.objs.size + 1) s.heap.objs.size 0 .none → SIt h' k s.heap.objs.size l 0 → h'.objs.size = s.heap.objs.size + 2 →
      (∀ b o, s.heap.get? b = some o → h'.get? b = some o) → Q (.ref (s.heap.objs.size + 1)) { s with heap := h' }) :
    wpAny (model prog w) A (call (.type "enumerate") [.ref l]) Q E s := by
  refine callType_new F.called_enumerate (by decide) (F.typeCall_enumerate_1 _) (F.newCall_enumerate_1 _) (fun obj => F.args_object_init_2 obj _) F.entry_enumerate_new
    (meets_enumS k l items) ⟨hL, ?_⟩
  have hz : (eH1 s.heap k l).objs.size = s.heap.objs.size + 1 := Heap.size_push ..
  show _ ∧ _
  rw [hz]
  have he : IsEnum (eH2 s.heap k l) (s.heap.objs.size + 1) s.heap.objs.size 0 .none := by
    have := Heap.get?_push_size (eH1 s.heap k l)
      (o := { cls := .type "enumerate", data := .fields #[.none, .bool false, .ref s.heap.objs.size, rawInt 0, .none, .none] }) rfl
    rw [hz] at this; exact this
  have hi : (eH2 s.heap k l).get? s.heap.objs.size = some _ := Heap.get?_push_of_some _ (Heap.get?_push_size _ rfl)
  exact ⟨⟨_, he, rfl⟩, h _ he (show SIt _ k _ l 0 by cases k <;> exact ⟨_, hi, rfl, rfl⟩) (by rw [Heap.size_push, hz]) fun b o x => Heap.get?_push_of_some _ (Heap.get?_push_of_some _ x)⟩
end
section
variable {prog : Program} {w : World} {A : Around} {E : Value → Shared → Prop} {s : Shared}
theorem enumS_end {k : Bool} {e it l : Addr} {i : Nat} {items : Array Value} {c : Int} {old : Value} {Q : Option Value → Shared → Prop} (hh : A.in1.handled = none)
    (he : IsEnum s.heap e it c old) (hit : SIt s.heap k it l i) (hl : SSrc s.heap k l items) (hx : items[i]? = none)
    (hQ : ∀ h', Heap.ExtBut it s.heap h' → Q none { s with heap := h' }) : wpAny (model prog w) A (pyNext (.ref e)) Q E s := by
  have hT : s.TypeIs (.ref e) "enumerate" := ⟨_, he, rfl⟩
  unfold pyNext
  refine wpAny_bind (wpAny_attempt (wpAny_callSpecial?_slot (name := Str.ofString "__next__") hT F.slot_enumerate_next
    (wpAny_call_entry F.slot_enumerate_next hT F.entry_enumerate_next ?_ (F.args_enumerate_next_1 _))))
  show wpAny _ _ (field (.ref e) 2 >>= _) _ _ _
  refine wpAny_bind (wpAny_field he rfl (x := .ref it) rfl ?_)
  refine wpAny_bind (nextS_end hh hit hl hx fun h' x he' hx' => ?_)
  obtain ⟨o, ho, hc⟩ := hx'
  refine wpAny_bind (wpAny_isInstance (T := "StopIteration") (b := true) ⟨o, ho, hc⟩ isSubtype_stop ?_)
  exact wpAny_pure (hQ _ he')
end
/-- the items of a list or a tuple that stands, each in a new pair -/
def IteS (K : PySem.W.Frag) (k : Bool) (a : Addr) (ys : List V) : It :=
  ⟨fun i H => SqS K H k a ys ∧ i < ys.length, fun i H v H' => ∃ (T : Addr) (x : V), v = .ref T ∧ H T = none ∧ H' = upd H T (.tup [.int (i : Nat), x]) ∧ ys[i]? = some x, fun i H => SqS K H k a ys ∧ ys.length ≤ i⟩
theorem turn_enumS {P : Program} {w : World} {K : PySem.W.Frag} {elts : List Expr} {kk : Nat} {tpos : Pos} {k : Bool} {a e it : Addr} {ys : List V} (hai : a ≠ it) (hea : e ≠ a) (hne : e ≠ it) :
    Turn P w K (.Tuple elts kk tpos) (IteS K k a ys) [e, it] e (fun i h => (∃ old, IsEnum h e it ((i : Nat) : Int) old) ∧ SIt h k it a i) where
  mem := by simp
  obj := fun i h st b hb => by
    obtain ⟨⟨old, he⟩, hi⟩ := st
    have e' : b = e ∨ b = it := by simpa using hb
    rcases e' with z | z
    · rw [z]; exact ⟨_, he, fun v q => nomatch q⟩
    · rw [z]; exact hi.ob
  keep := fun i h h' st k => let ⟨⟨old, he⟩, hi⟩ := st; ⟨⟨old, k e (by simp) _ he⟩, hi.at fun o q => k it (by simp) o q⟩
  item := by
    intro X hP hw hK hc i pins s σ H E I hf st hg
    subst hP hw hK
    obtain ⟨⟨old, he⟩, hit⟩ := st
    obtain ⟨hq, hx⟩ := hg
    obtain ⟨its, rv, p⟩ := Inv.srcS I hq
    have hl := rv.length
    have hel : e < s.heap.objs.size := Heap.lt_size he
    have hil : it < s.heap.objs.size := hit.lt
    have hh : X.A.in1.handled = none := I.ok.hd hc
    refine wpAny_pyNext_enum_itemD (drawsS hh k it a hai its.toArray) he ⟨hit, p⟩ (by simp; omega) hne (by simp [hne, hea]) fun u h' tk hu ho hst' hT hsz hk => ?_
    obtain ⟨hit', p'⟩ := hst'
    have hx1 : ys[i]? = some (ys[i]'hx) := List.getElem?_eq_getElem hx
    generalize ys[i]'hx = x at hx1
    obtain ⟨u', hu', ru⟩ := rv.get hx1
    have eu : u' = u := by
      have q : its[i]? = some u := by simpa using hu
      rw [q] at hu'; exact (Option.some.inj hu').symm
    subst eu
    refine ⟨_, rfl, wpAny_letOwnedTupleGo_enum (s := { s with heap := h', toks := tk + 1 }) ho fun h'' he' sb => ?_⟩
    have hT2 : h''.get? s.heap.objs.size = some { cls := .type "tuple", data := .seq #[.int i tk, u'] } := (sb.2 _ (Nat.ne_of_gt hel)).trans hT
    have new : ObjOk X.prog X.w (upd H s.heap.objs.size (.tup [.int (i : Nat), x])) h'' s.heap.objs.size (.tup [.int (i : Nat), x]) :=
      ⟨by show 2 ≤ sizeLine; decide, [.int i tk, u'], .cons ⟨_, rfl⟩ (.cons ru .nil), ⟨_, hT2, rfl, _, rfl⟩⟩
    have I1 : L2.Inv X pins σ (upd H s.heap.objs.size (.tup [.int (i : Nat), x])) { s with heap := h'', toks := tk + 1 } :=
      I.turnedNew (t' := tk + 1) (ch := [e, it]) (fun b ob hb q => (sb.2 b (fun z => hb (by simp [z]))).trans (hk b ob (fun z => hb (by simp [z])) (fun z => hb (by simp [z])) q)) hf (Nat.le_refl _) new
    refine ⟨.ref s.heap.objs.size, _, I1, rfl, ⟨_, x, rfl, I.hok.fresh (Nat.le_refl _), rfl, hx1⟩, ⟨⟨u', ?_⟩, hit'.at fun o q => (sb.2 it (Ne.symm hne)).trans q⟩, fun b hb => ?_⟩
    · have e1 : ((i + 1 : Nat) : Int) = (i : Int) + 1 := by omega
      rw [e1]; exact he'
    · have hb' : b < s.heap.objs.size := by
        have e' : b = e ∨ b = it := by simpa using hb
        rcases e' with z | z
        · rw [z]; exact hel
        · rw [z]; exact hil
      rw [upd_ne (Nat.ne_of_lt hb')]
      exact (hf b hb).1
  done := by
    intro X hP hw hK hc i pins s σ H E I hf st hg
    subst hP hw hK
    obtain ⟨⟨old, he⟩, hit⟩ := st
    obtain ⟨hq, hx⟩ := hg
    obtain ⟨its, rv, p⟩ := Inv.srcS I hq
    obtain ⟨f0, f1, f2, f3, f4, f5⟩ := hf it (by simp)
    have hl := rv.length
    have hh : X.A.in1.handled = none := I.ok.hd hc
    exact enumS_end hh he hit p (by simp; omega) fun h' eb => ⟨rfl, I.turned (t' := s.toks) (fun b o hb q => eb b o hb q) f0 f1 f3 f4 f5⟩
  self := fun A i s Q E st h => let ⟨⟨_, he⟩, _⟩ := st; wpAny_pyIter_enum he h
def iEnumS (K : PySem.W.Frag) (ta : TA) : TI := fun σ H R => ta σ H fun vs H1 => ∃ (k : Bool) (a : Addr) (ys : List V), vs = [.ref a] ∧ SqS K H1 k a ys ∧ R (IteS K k a ys) H1
theorem pi_enumS {X : Cx} {e : Expr} {ta : TA} {p pos tpos : Pos} {elts : List Expr} {kk : Nat} (hg : Gl X "enumerate") (hm : X.mg "enumerate" = none) (ha : PA X [e] ta) (hs : starEach [e] X.env = [(false, eval e X.env)] := by rfl) :
    PI X (.Tuple elts kk tpos) (.Call (.Name "enumerate" p) [e] [] pos) (iEnumS X.K ta) := by
  refine ⟨fun pins s σ H R I h => ?_⟩
  refine Call_ (ld_blt I hg hm boot_enumerate (PyProof.Rows.callWith_type1 (thn (ha.run pos pins s σ H _ I h) fun us s1 ⟨vs, H1, I1, r1, q1⟩ => ?_) hs rfl))
  obtain ⟨k, a, ys, ex, hq, q⟩ := q1
  subst ex
  cases r1 with
  | cons r rr =>
    cases rr
    cases r
    obtain ⟨its, rv, p'⟩ := Inv.srcS I1 hq
    have hlt := p'.lt
    refine call_enumS p' fun h' he hit hsz hk => wpAny_pyIter_enum he ?_
    have I2 : L2.Inv X pins σ H1 { s1 with heap := h' } := I1.kept (t' := s1.toks) hk
    refine ⟨s1.heap.objs.size + 1, [s1.heap.objs.size + 1, s1.heap.objs.size], _, _, H1, rfl, I2, turn_enumS (Nat.ne_of_lt hlt) (Nat.ne_of_gt (Nat.lt_succ_of_lt hlt)) (Nat.succ_ne_self _), ⟨⟨.none, he⟩, hit⟩, fun b hb => ?_, q⟩
    have e' : b = s1.heap.objs.size + 1 ∨ b = s1.heap.objs.size := by simpa using hb
    have hle : s1.heap.objs.size ≤ b := by
      rcases e' with z | z
      · rw [z]; exact Nat.le_add_right _ _
      · rw [z]; exact Nat.le_refl _
    exact I1.fpOk hle (I1.hok.fresh hle)
theorem WalkD.enumS {G : GC} {F B : Hp} {k : Bool} {a : Addr} {ys : List V} {ds : List D} (hs : SqS G.K B k a ys) (r : RepAll G F ys ds) : WalkD G F B (IteS G.K k a ys) (enumL ds) where
  goes := fun i H hi s => by
    have w := r.length
    rw [enumL_len] at hi
    exact ⟨hs.keep s, by omega⟩
  stops := fun H s => by
    have w := r.length
    exact ⟨hs.keep s, by rw [enumL_len]; omega⟩
  yields := fun i F2 H2 v H3 hi s1 s2 _ ⟨T, x, e1, e2, e3, g⟩ => by
    subst e1 e3
    obtain ⟨c, t, m⟩ := r.getV g
    exact ⟨_, .tup [.int (i : Nat), c], Grow.mk1 s2 e2, enumL_get t, Rep.tup (.of upd_same) (.cons (.int _) (.cons ((m.mono s1).mono (Grow.mk1 s2 e2).f) .nil))⟩
def enumS : List D → Res (List D)
  | [d] => match seqQ d with
    | some xs => .ok (enumL xs)
    | none => .bad
  | _ => .bad
@[simp] theorem enumS_lst (xs : List D) : enumS [.lst xs] = .ok (enumL xs) := rfl
@[simp] theorem enumS_tup (xs : List D) : enumS [.tup xs] = .ok (enumL xs) := rfl
@[simp] theorem enumS_scr (ns : List Int) : enumS [.scr ns] = .ok (enumL (ns.map D.int)) := rfl
theorem enumS_inv (ds : List D) : (∃ d xs, ds = [d] ∧ seqQ d = some xs ∧ enumS ds = .ok (enumL xs)) ∨ enumS ds = .bad := by
  unfold enumS
  split
  · rename_i d
    split
    · rename_i xs h; exact .inl ⟨d, xs, rfl, h, rfl⟩
    · exact .inr rfl
  · exact .inr rfl
section
variable {X : Cx} {W : Wi} {e : Expr} {p pos tpos : Pos} {elts : List Expr} {kk : Nat}
theorem ri_enumS {fa : Env → Res (List D)} (hm : X.mg "enumerate" = none) (ha : RA X W [e] fa) (hg : Gl X "enumerate" := by rfl) (hs : starEach [e] X.env = [(false, eval e X.env)] := by rfl) :
    RI X W true (.Tuple elts kk tpos) (.Call (.Name "enumerate" p) [e] [] pos) (fun r => fa r >>= enumS) := by
  refine ⟨fun pins s σ H R I ⟨H0, F0, fp, F, r, m, o⟩ => (pi_enumS hg hm ha hs).run pins s σ H R I ⟨H0, F0, fp, F, r, m, o.bind fun F' H' ds gr o2 vs rv => ?_⟩⟩
  rcases enumS_inv ds with ⟨d, xs, rfl, w, e⟩ | e
  · rw [e] at o2
    cases rv with
    | cons r1 rr =>
      cases rr
      obtain ⟨k, a, ys, rfl, q, ra⟩ := seqQ_rep (Same.refl F') r1 w
      exact ⟨k, a, ys, rfl, q.keep gr.sub, o2 F' H' (Grow.refl gr.sub) _ (WalkD.enumS q ra)⟩
  · rw [e] at o2; exact o2.elim
end
end Mir
namespace Mir
variable [Tn]
/-- images that make a map -/
structure OkI (s g : List Int) (im : List (List Int)) : Prop where
  len : im.length = s.length
  el : ∀ y ∈ im, OkE g y
  nil : ∀ p ∈ s.zip im, timesV g p.1 p.2 = zeroV g
theorem el_of_mod {g x : List Int} (h : OkR g) (hl : x.length = g.length) (hm : ∀ i, i < g.length → ∃ z, x.getD i 0 = z % g.getD i 0) : OkE g x := by
  refine ⟨hl, fun p hp => ?_⟩
  obtain ⟨i, hi⟩ := List.getElem?_of_mem hp
  obtain ⟨g1, g2⟩ := List.getElem?_zip_eq_some.mp hi
  have hi' : i < g.length := (List.getElem?_eq_some_iff.mp g2).1
  obtain ⟨z, e⟩ := hm i hi'
  have t := h.get hi'
  have e1 : x.getD i 0 = p.1 := by rw [List.getD_eq_getElem?_getD, g1]; rfl
  have e2 : g.getD i 0 = p.2 := by rw [List.getD_eq_getElem?_getD, g2]; rfl
  rw [← e1, ← e2, e]
  exact ⟨Int.emod_nonneg _ (by omega), Int.emod_lt_of_pos _ (by omega)⟩
theorem times_el {g x : List Int} {n : Int} (h : OkR g) (hl : x.length = g.length) : OkE g (timesV g n x) := el_of_mod h (timesV_len g x n hl) fun i hi => ⟨_, timesV_at hi hl⟩
/-- the heads -/
def headV (n at_ : Nat) : List Int := (List.range n).map fun k => if k = at_ then 1 else 0
theorem headV_at {n a i : Nat} (hi : i < n) : (headV n a).getD i 0 = if i = a then 1 else 0 := by
  unfold headV
  rw [List.getD_eq_getElem?_getD, List.getElem?_map, List.getElem?_range hi]
  rfl
theorem headV_len (n a : Nat) : (headV n a).length = n := by simp [headV]
theorem OkI.at_ {s g : List Int} {im : List (List Int)} (h : OkI s g im) {i : Nat} (hi : i < s.length) : OkE g (im.getD i []) ∧ timesV g (s.getD i 0) (im.getD i []) = zeroV g := by
  have e1 : s[i]? = some (s.getD i 0) := by rw [List.getD_eq_getElem?_getD, List.getElem?_eq_getElem hi]; rfl
  have e2 : im[i]? = some (im.getD i []) := by rw [List.getD_eq_getElem?_getD, List.getElem?_eq_getElem (by rw [h.len]; exact hi)]; rfl
  exact ⟨h.el _ (List.mem_of_getElem? e2), h.nil (s.getD i 0, im.getD i []) (List.mem_of_getElem? (List.getElem?_zip_eq_some.mpr ⟨e1, e2⟩))⟩
end Mir
namespace Mir
variable [Tn]
theorem el_mod {lo v : List Int} (h : OkE lo v) {p : Nat} (hp : p < lo.length) : v.getD p 0 % lo.getD p 0 = v.getD p 0 := by
  obtain ⟨a, b⟩ := h.get hp
  exact Int.emod_eq_of_lt a b
theorem putV_assoc {rs x y z : List Int} (h1 : x.length = rs.length) (h2 : y.length = rs.length) (h3 : z.length = rs.length) : putV rs (putV rs x y) z = putV rs x (putV rs y z) := by
  have l1 := putV_len h1 h2
  have l2 := putV_len h2 h3
  refine ext_getD (by rw [putV_len l1 h3, putV_len h1 l2]) fun i hi => ?_
  rw [putV_len h1 l2] at hi
  rw [putV_at hi l1 h3, putV_at hi h1 h2, putV_at hi h1 l2, putV_at hi h2 h3, Int.emod_add_emod, Int.add_emod_emod, Int.add_assoc]
theorem head_el {up : List Int} (h : OkR up) (i : Nat) : OkE up (headV up.length i) := el_of_mod h (headV_len _ _) fun j hj => by
  have t := h.get hj
  refine ⟨if j = i then 1 else 0, ?_⟩
  rw [headV_at hj]
  by_cases e : j = i
  · rw [if_pos e, Int.emod_eq_of_lt (by omega) (by omega)]
  · rw [if_neg e]; simp
theorem mul_head {up : List Int} {i j k : Nat} (hj : j < up.length) (hk : (k : Int) ≤ up.getD i 0) (g : OkR up) : (timesV up (k : Nat) (headV up.length i)).getD j 0 = if j = i then (k : Int) % up.getD i 0 else 0 := by
  rw [timesV_at hj (headV_len _ _), headV_at hj]
  by_cases e : j = i
  · subst e; simp
  · simp [e]
theorem times_nil {up : List Int} (g : OkR up) (i : Nat) (hi : i < up.length) : timesV up (up.getD i 0) (headV up.length i) = zeroV up := ext_getD (by rw [timesV_len up _ _ (headV_len _ _)]; simp [zeroV]) fun j hj => by
  have hj : j < up.length := by simpa [zeroV] using hj
  rw [zeroV_at, timesV_at hj (headV_len _ _), headV_at hj]
  by_cases e : j = i
  · subst e; simp
  · simp [e]
theorem putV_comm {rs x y : List Int} (h1 : x.length = rs.length) (h2 : y.length = rs.length) : putV rs x y = putV rs y x := ext_getD (by rw [putV_len h1 h2, putV_len h2 h1]) fun i hi => by
  rw [putV_len h2 h1] at hi
  rw [putV_at hi h1 h2, putV_at hi h2 h1, Int.add_comm]
theorem put_zero {lo v : List Int} (h : OkE lo v) : putV lo v (zeroV lo) = v := by
  have lz : (zeroV lo).length = lo.length := by simp [zeroV]
  refine ext_getD (by rw [putV_len h.len lz, h.len]) fun i hi => ?_
  rw [h.len] at hi
  rw [putV_at hi h.len lz, zeroV_at, Int.add_zero, el_mod h hi]
end Mir
namespace Mir
open PySem PySem.Spec PyProof.Rows L2
variable [Tn]
section
variable {G : GC} {J : L2.St → Prop} {H0 F0 F1 H1 : Hp} {fp : Nat → List Addr} {σ : L2.St} {r : Env}
/-- and taken up again -/
theorem MS.take (hJ : ∀ σ, J σ) (m : MS G J H0 F0 fp F1 σ H1 r) {i : Nat} {v : V} {s : Shape} {o : D} (hv : σ[i]? = some (some v)) (ho : r[i]? = some (.ow s o)) {fp2 : Nat → List Addr} {F2 H2 : Hp} {σ2 : L2.St} {r2 : Env} (m2 : MS G (fun σ => σ[i]? = some (some v)) H1 F1 fp2 F2 σ2 H2 r2) :
    MS G J H0 F0 (fun j => if j = i then fp i else fp2 j) F2 σ2 H2 (r2.set i (.ow s o)) := by
  obtain ⟨⟨w, hw, ow⟩, fr⟩ := m.ow i s o ho
  rw [hv] at hw
  cases hw
  have th := fun a (ha : a ∈ fp i) => ow.there a ha
  have nf : ∀ a ∈ fp i, F2 a = none := fun a ha => by
    cases e : F2 a with
    | none => rfl
    | some u =>
      rcases m2.new a u e with z | z
      · have := (th a ha).1
        rw [this] at z; cases z
      · obtain ⟨u2, e2⟩ := (th a ha).2
        rw [z] at e2; cases e2
  have hi2 : ∀ a ∈ fp i, H1 a ≠ none := fun a ha z => by
    obtain ⟨u2, e2⟩ := (th a ha).2
    rw [z] at e2; cases e2
  refine ⟨hJ _, m.s0.trans m2.s0, m.f0.trans m2.f0, m2.sub, fun a u e => ?_, by simpa using m2.len, fun j d h => ?_, fun j t d h => ?_, fun j k t u d e ne h1 h2 => ?_, m.t0⟩
  · rcases m2.new a u e with z | z
    · exact m.new a u z
    · exact .inr (m.s0.free z)
  · rcases get_set_slot h with ⟨_, x, _⟩ | ⟨_, h⟩
    · cases x
    · exact m2.sh j d h
  · rcases get_set_slot h with ⟨e1, x, _⟩ | ⟨ne, h⟩
    · subst e1
      cases x
      refine ⟨⟨v, m2.jo, ?_⟩, ?_⟩
      · show Own G F2 H2 s v o (if i = i then fp i else fp2 i)
        rw [if_pos rfl]
        exact ow.keep ⟨fun a ha u e => m2.s0.at' a u e fun ps z => ow.nt a ha ps (z ▸ e), m2.f0, fun a ha _ => nf a ha⟩
      · show ∀ a ∈ (if i = i then fp i else fp2 i), H0 a = none
        rw [if_pos rfl]
        exact fr
    · have ne' : ¬ j = i := fun z => ne z.symm
      obtain ⟨⟨w, q1, q2⟩, q3⟩ := m2.ow j t d h
      refine ⟨⟨w, q1, ?_⟩, ?_⟩
      · show Own G F2 H2 t w d (if j = i then fp i else fp2 j)
        rw [if_neg ne']
        exact q2
      · show ∀ a ∈ (if j = i then fp i else fp2 j), H0 a = none
        rw [if_neg ne']
        exact fun a ha => m.s0.free (q3 a ha)
  · show ∀ a ∈ (if j = i then fp i else fp2 j), a ∉ (if k = i then fp i else fp2 k)
    rcases get_set_slot h1 with ⟨e1, _, _⟩ | ⟨n1, h1⟩
    · subst e1
      rcases get_set_slot h2 with ⟨e2, _, _⟩ | ⟨n2, h2⟩
      · exact absurd e2 ne
      · have n2' : ¬ k = i := fun z => n2 z.symm
        rw [if_pos rfl, if_neg n2']
        exact fun a ha hb => hi2 a ha ((m2.ow k u e h2).2 a hb)
    · have n1' : ¬ j = i := fun z => n1 z.symm
      rw [if_neg n1']
      rcases get_set_slot h2 with ⟨e2, _, _⟩ | ⟨n2, h2⟩
      · subst e2
        rw [if_pos rfl]
        exact fun a ha hb => hi2 a hb ((m2.ow j t d h1).2 a ha)
      · have n2' : ¬ k = i := fun z => n2 z.symm
        rw [if_neg n2']
        exact m2.ap j k t u d e ne h1 h2
end
section
variable {X : Cx} {W : Wi} {k : Kd}
abbrev Wi.pin (W : Wi) (i : Nat) (v : V) : Wi := ⟨W.w, fun σ => σ[i]? = some (some v)⟩
end
end Mir
namespace Mir
open PySem PySem.Spec PyProof.Rows L2
variable [Tn]
def slotS : Shape → D → Slot
  | .sh, d => .sh d
  | s, d => .ow s d
def nameO (i : Nat) (s : Shape) (d : D) (r : Env) : Res Env := .ok (r.set i (slotS s d))
@[simp] theorem nameO_sh (i : Nat) (d : D) (r : Env) : nameO i .sh d r = .ok (r.set i (.sh d)) := rfl
@[simp] theorem nameO_flat (i : Nat) (d : D) (r : Env) : nameO i .flat d r = .ok (r.set i (.ow .flat d)) := rfl
end Mir
namespace Mir
open PySem PySem.Spec PyProof.Rows L2
variable [Tn]
def IsTI (h : Heap) (v : Value) (ns : List Int) : Prop := ∃ a o items n, v = Value.ref a ∧ h.get? a = some o ∧ o.cls = .type "tuple" ∧ o.data = .seq items n ∧ IntsAre items.toList ns
theorem IsTI.keeps {h h' : Heap} {v : Value} {ns : List Int} (p : IsTI h v ns) (k : ∀ b o, h.get? b = some o → o.cls = .type "tuple" → h'.get? b = some o) : IsTI h' v ns := by
  obtain ⟨a, o, t, n, e, ho, hc, hd, hi⟩ := p
  exact ⟨a, o, t, n, e, k _ _ ho hc, hc, hd, hi⟩
theorem boot_sorted : bootBuiltins "sorted" = some (.builtin "sorted") := by decide +kernel
end Mir
namespace Mir
open PySem PySem.Spec PyProof.Rows L2
variable [Tn]
/-- the items of vs hold the rows ks -/
inductive AllTI (h : Heap) : List Value → List (List Int) → Prop
  | nil : AllTI h [] []
  | cons {v : Value} {k : List Int} {vs : List Value} {ks : List (List Int)} : IsTI h v k → AllTI h vs ks → AllTI h (v :: vs) (k :: ks)
theorem AllTI.len {h : Heap} : ∀ {vs : List Value} {ks : List (List Int)}, AllTI h vs ks → vs.length = ks.length
  | _, _, .nil => rfl
  | _, _, .cons _ t => by rw [List.length_cons, List.length_cons, t.len]
theorem AllTI.keeps {h h' : Heap} (k : ∀ b o, h.get? b = some o → o.cls = .type "tuple" → h'.get? b = some o) : ∀ {vs : List Value} {ks : List (List Int)}, AllTI h vs ks → AllTI h' vs ks
  | _, _, .nil => .nil
  | _, _, .cons a t => .cons (a.keeps k) (t.keeps k)
def IsTT (h : Heap) (v : Value) (ks : List (List Int)) : Prop := ∃ a o items n, v = Value.ref a ∧ h.get? a = some o ∧ o.cls = .type "tuple" ∧ o.data = .seq items n ∧ AllTI h items.toList ks
theorem IsTT.keeps {h h' : Heap} {v : Value} {ks : List (List Int)} (p : IsTT h v ks) (k : ∀ b o, h.get? b = some o → o.cls = .type "tuple" → h'.get? b = some o) : IsTT h' v ks := by
  obtain ⟨a, o, t, n, e, ho, hc, hd, hi⟩ := p
  exact ⟨a, o, t, n, e, k _ _ ho hc, hc, hd, hi.keeps k⟩
end Mir
namespace Mir
open PySem PySem.Spec PyProof.Rows L2
variable [Tn]
theorem set_len (x : List Int) (i : Nat) (k : Int) : (x.set i k).length = x.length := List.length_set
theorem set_at {x : List Int} {i j : Nat} {k : Int} (hi : i < x.length) : (x.set i k).getD j 0 = if j = i then k else x.getD j 0 := by
  rw [List.getD_eq_getElem?_getD, List.getElem?_set]
  by_cases h : i = j
  · subst h
    rw [if_pos rfl, if_pos hi, if_pos rfl]
    rfl
  · rw [if_neg h, if_neg (fun z => h z.symm), List.getD_eq_getElem?_getD]
theorem set_el {up x : List Int} {i : Nat} {k : Int} (hx : OkE up x) (hi : i < up.length) (h0 : 0 ≤ k) (h1 : k < up.getD i 0) : OkE up (x.set i k) := by
  have hl := hx.len
  refine ⟨by rw [set_len, hl], fun p hp => ?_⟩
  obtain ⟨j, hj, e⟩ := List.getElem_of_mem hp
  rw [List.length_zip, set_len, hl] at hj
  have hj' : j < up.length := by omega
  rw [List.getElem_zip] at e
  have e1 : p.1 = (x.set i k).getD j 0 := by
    rw [← e, List.getD_eq_getElem?_getD, List.getElem?_eq_getElem (by rw [set_len]; omega)]
    rfl
  have e2 : p.2 = up.getD j 0 := by
    rw [← e, List.getD_eq_getElem?_getD, List.getElem?_eq_getElem hj']
    rfl
  rw [e1, e2, set_at (by omega)]
  split
  · rename_i q; subst q; exact ⟨h0, h1⟩
  · exact hx.get hj'
theorem set_same {x : List Int} {i : Nat} (hi : i < x.length) : x.set i (x.getD i 0) = x := ext_getD (set_len _ _ _) fun j hj => by
  rw [set_at hi]
  split
  · rename_i q; rw [q]
  · rfl
theorem set_set (x : List Int) (i : Nat) (k l : Int) : (x.set i k).set i l = x.set i l := by simp
/-- one more at the i-th place -/
theorem set_head {up x : List Int} {i : Nat} {k : Int} (g : OkR up) (hx : OkE up x) (hi : i < up.length) (h0 : 0 ≤ k) (h1 : k + 1 < up.getD i 0) : putV up (x.set i k) (headV up.length i) = x.set i (k + 1) := by
  have hl := hx.len
  have l1 : (x.set i k).length = up.length := by rw [set_len, hl]
  refine ext_getD (by rw [putV_len l1 (headV_len _ _), set_len, hl]) fun j hj => ?_
  rw [set_len, hl] at hj
  rw [putV_at hj l1 (headV_len _ _), set_at (by omega), set_at (by omega), headV_at hj]
  by_cases q : j = i
  · subst q
    rw [if_pos rfl, if_pos rfl, if_pos rfl, Int.emod_eq_of_lt (by omega) h1]
  · rw [if_neg q, if_neg q, if_neg q]
    have := hx.get hj
    rw [Int.emod_eq_of_lt (by omega) (by omega)]
    omega
/-- so many at the i-th place -/
theorem set_heads {up x : List Int} {i k : Nat} (g : OkR up) (hx : OkE up x) (hi : i < up.length) (hz : x.getD i 0 = 0) (h1 : (k : Int) < up.getD i 0) : putV up x (timesV up (k : Nat) (headV up.length i)) = x.set i (k : Nat) := by
  have hl := hx.len
  have tl := timesV_len up (headV up.length i) (k : Nat) (headV_len _ _)
  refine ext_getD (by rw [putV_len hl tl, set_len, hl]) fun j hj => ?_
  rw [set_len, hl] at hj
  rw [putV_at hj hl tl, set_at (by omega), mul_head hj (by omega) g]
  have := hx.get hj
  by_cases q : j = i
  · subst q
    rw [if_pos rfl, if_pos rfl, hz, Int.zero_add, Int.emod_emod_of_dvd _ (Int.dvd_refl _), Int.emod_eq_of_lt (by omega) h1]
  · rw [if_neg q, if_neg q, Int.add_zero, Int.emod_eq_of_lt this.1 this.2]
abbrev Cg (m a b : Int) : Prop := ∃ q, a = b + m * q
/-- what is known of two carries' difference and the labels, at one place -/
structure LabC (up : List Int) (m : Int) (d : List Int → List Int → Int) (H : List Int → Int) (lab : Nat → Int) : Prop where
  coc : ∀ x y z, OkE up x → OkE up y → OkE up z → Cg m (d x y + d (putV up x y) z) (d y z + d x (putV up y z))
  h0 : Cg m (H (zeroV up)) (d (zeroV up) (zeroV up))
  hs : ∀ i x, i < up.length → OkE up x → (∀ j, i < j → x.getD j 0 = 0) → x.getD i 0 + 1 < up.getD i 0 → Cg m (H (putV up x (headV up.length i))) (H x + lab i - d x (headV up.length i))
  wt : ∀ i, i < up.length → Cg m (up.getD i 0 * lab i) (((List.range (up.getD i 0).toNat).map fun k : Nat => d (timesV up (k : Nat) (headV up.length i)) (headV up.length i)).sum)
  od : ∀ i j, i < j → j < up.length → Cg m (d (headV up.length i) (headV up.length j)) (d (headV up.length j) (headV up.length i))
section
variable {up : List Int} {m : Int} {d : List Int → List Int → Int} {H : List Int → Int} {lab : Nat → Int}
def dfD (up : List Int) (d : List Int → List Int → Int) (H : List Int → Int) (x y : List Int) : Int := d x y - (H x + H y - H (putV up x y))
theorem LabC.D_coc (L : LabC up m d H lab) (g : OkR up) {x y z : List Int} (hx : OkE up x) (hy : OkE up y) (hz : OkE up z) : Cg m (dfD up d H x y + dfD up d H (putV up x y) z) (dfD up d H y z + dfD up d H x (putV up y z)) := by
  obtain ⟨q, e⟩ := L.coc x y z hx hy hz
  refine ⟨q, ?_⟩
  unfold dfD
  rw [putV_assoc hx.len hy.len hz.len]
  omega
theorem put0 {x : List Int} (hx : OkE up x) : putV up x (zeroV up) = x := put_zero hx
theorem put0l {x : List Int} (g : OkR up) (hx : OkE up x) : putV up (zeroV up) x = x := by rw [putV_comm (zero_el g).len hx.len, put_zero hx]
theorem LabC.D00 (L : LabC up m d H lab) (g : OkR up) : Cg m (dfD up d H (zeroV up) (zeroV up)) 0 := by
  obtain ⟨q, e⟩ := L.h0
  refine ⟨-q, ?_⟩
  unfold dfD
  rw [put0 (zero_el g), Int.mul_neg]
  omega
theorem LabC.D0y (L : LabC up m d H lab) (g : OkR up) {y : List Int} (hy : OkE up y) : Cg m (dfD up d H (zeroV up) y) 0 := by
  have z := zero_el g
  obtain ⟨q, e⟩ := L.D_coc g z z hy
  obtain ⟨q2, e2⟩ := L.D00 g
  rw [put0 z, put0l g hy] at e
  refine ⟨q2 - q, ?_⟩
  rw [Int.mul_sub]
  omega
theorem LabC.Dx0 (L : LabC up m d H lab) (g : OkR up) {x : List Int} (hx : OkE up x) : Cg m (dfD up d H x (zeroV up)) 0 := by
  have z := zero_el g
  obtain ⟨q, e⟩ := L.D_coc g hx z z
  obtain ⟨q2, e2⟩ := L.D00 g
  rw [put0 z, put0 hx] at e
  refine ⟨q2 + q, ?_⟩
  rw [Int.mul_add]
  omega
theorem LabC.H_head (L : LabC up m d H lab) (g : OkR up) {i : Nat} (hi : i < up.length) : Cg m (H (headV up.length i)) (lab i) := by
  have z := zero_el g
  have he := head_el g i
  have n2 := g.get hi
  obtain ⟨q, e⟩ := L.hs i (zeroV up) hi z (fun j _ => zeroV_at up j) (by rw [zeroV_at]; omega)
  obtain ⟨q2, e2⟩ := L.D0y g he
  rw [put0l g he] at e
  unfold dfD at e2
  rw [put0l g he] at e2
  refine ⟨q - q2, ?_⟩
  rw [Int.mul_sub]
  omega
/-- the places behind i are nought -/
def Low (i : Nat) (x : List Int) : Prop := ∀ j, i < j → x.getD j 0 = 0
theorem LabC.step1 (L : LabC up m d H lab) (g : OkR up) {i : Nat} (hi : i < up.length) {x : List Int} (hx : OkE up x) (hl : Low i x) (h : x.getD i 0 + 1 < up.getD i 0) : Cg m (dfD up d H x (headV up.length i)) 0 := by
  obtain ⟨q, e⟩ := L.hs i x hi hx hl h
  obtain ⟨q2, e2⟩ := L.H_head g hi
  refine ⟨q - q2, ?_⟩
  unfold dfD
  rw [e, e2, Int.mul_sub]
  omega
theorem low_zero (i : Nat) : Low i (zeroV up) := fun j _ => zeroV_at up j
theorem low_set {x : List Int} {i : Nat} {k : Int} (hi : i < x.length) (h : Low i x) : Low i (x.set i k) := fun j hj => by
  rw [set_at hi, if_neg (by omega)]
  exact h j hj
theorem LabC.sums (L : LabC up m d H lab) (g : OkR up) {i : Nat} (hi : i < up.length) : ∀ k : Nat, (k : Int) < up.getD i 0 → Cg m (H ((zeroV up).set i (k : Nat)))
    (H (zeroV up) + (k : Nat) * lab i - ((List.range k).map fun k : Nat => d (timesV up (k : Nat) (headV up.length i)) (headV up.length i)).sum)
  | 0, _ => by
    have e : (zeroV up).set i ((0 : Nat) : Int) = zeroV up := by
      have := set_same (x := zeroV up) (i := i) (by unfold zeroV; simpa using hi)
      rw [zeroV_at] at this
      exact this
    rw [e]
    exact ⟨0, by simp⟩
  | k + 1, hk => by
    have z := zero_el g
    have zl : i < (zeroV up).length := by rw [z.len]; exact hi
    obtain ⟨q, e⟩ := LabC.sums L g hi k (by omega)
    have hx := set_el z hi (k := (k : Nat)) (by omega) (by omega)
    obtain ⟨q2, e2⟩ := L.hs i _ hi hx (low_set zl (low_zero i)) (by rw [set_at zl, if_pos rfl]; omega)
    rw [set_head g z hi (by omega) (by omega)] at e2
    have sh := set_heads (k := k) g z hi (zeroV_at up i) (by omega)
    rw [put0l g (times_el g (headV_len _ _))] at sh
    refine ⟨q2 + q, ?_⟩
    rw [List.range_succ, List.map_append, List.sum_append]
    simp only [List.map_cons, List.map_nil, List.sum_cons, List.sum_nil]
    rw [sh]
    show H ((zeroV up).set i ((k + 1 : Nat) : Int)) = _
    rw [show ((k + 1 : Nat) : Int) = (k : Int) + 1 by omega, e2, e, Int.mul_add, Int.add_mul]
    simp
    omega
/-- the last turn round -/
theorem LabC.wrap0 (L : LabC up m d H lab) (g : OkR up) {i : Nat} (hi : i < up.length) : Cg m (dfD up d H ((zeroV up).set i (up.getD i 0 - 1)) (headV up.length i)) 0 := by
  have z := zero_el g
  have n2 := g.get hi
  obtain ⟨n, hn⟩ : ∃ n : Nat, up.getD i 0 = (n : Int) + 1 := ⟨(up.getD i 0 - 1).toNat, by omega⟩
  obtain ⟨q, e⟩ := L.sums g hi n (by omega)
  obtain ⟨q2, e2⟩ := L.wt i hi
  obtain ⟨q3, e3⟩ := L.H_head g hi
  have sh := set_heads (k := n) g z hi (zeroV_at up i) (by omega)
  rw [put0l g (times_el g (headV_len _ _))] at sh
  have e4 : up.getD i 0 - 1 = (n : Int) := by omega
  have tn : (up.getD i 0).toNat = n + 1 := by omega
  rw [tn, List.range_succ, List.map_append, List.sum_append] at e2
  simp only [List.map_cons, List.map_nil, List.sum_cons, List.sum_nil] at e2
  rw [sh, hn, Int.add_mul] at e2
  have back : putV up ((zeroV up).set i (n : Int)) (headV up.length i) = zeroV up := by
    rw [← sh, times_succ (headV_len _ _), show ((n + 1 : Nat) : Int) = up.getD i 0 by omega, times_nil g i hi]
  rw [e4]
  unfold dfD
  rw [back]
  refine ⟨-q2 - q - q3, ?_⟩
  rw [Int.mul_sub, Int.mul_sub, Int.mul_neg, e, e3]
  omega
theorem LabC.base (L : LabC up m d H lab) (g : OkR up) {i : Nat} (hi : i < up.length) {b : List Int} (hb : OkE up b) (hl : Low i b) (h0 : b.getD i 0 = 0) : ∀ k : Nat, (k : Int) < up.getD i 0 → Cg m (dfD up d H b ((zeroV up).set i (k : Nat))) 0
  | 0, _ => by
    have e : (zeroV up).set i ((0 : Nat) : Int) = zeroV up := by
      have := set_same (x := zeroV up) (i := i) (by unfold zeroV; simpa using hi)
      rw [zeroV_at] at this
      exact this
    rw [e]
    exact L.Dx0 g hb
  | k + 1, hk => by
    have z := zero_el g
    have bl : i < b.length := by rw [hb.len]; exact hi
    have zl : i < (zeroV up).length := by rw [z.len]; exact hi
    obtain ⟨q, e⟩ := LabC.base L g hi hb hl h0 k (by omega)
    have hx := set_el z hi (k := (k : Nat)) (by omega) (by omega)
    obtain ⟨q2, e2⟩ := L.D_coc g hb hx (head_el g i)
    have sh := set_heads (k := k) g z hi (zeroV_at up i) (by omega)
    rw [put0l g (times_el g (headV_len _ _))] at sh
    have sb := set_heads (k := k) g hb hi h0 (by omega)
    have eb : putV up b ((zeroV up).set i (k : Nat)) = b.set i (k : Nat) := by rw [← sh]; exact sb
    rw [eb, set_head g z hi (by omega) (by omega)] at e2
    have bk := set_el hb hi (k := (k : Nat)) (by omega) (by omega)
    obtain ⟨q3, e3⟩ := L.step1 g hi bk (low_set bl hl) (by rw [set_at bl, if_pos rfl]; omega)
    obtain ⟨q4, e4⟩ := L.step1 g hi hx (low_set zl (low_zero i)) (by rw [set_at zl, if_pos rfl]; omega)
    show Cg m (dfD up d H b ((zeroV up).set i ((k + 1 : Nat) : Int))) 0
    rw [show ((k + 1 : Nat) : Int) = (k : Int) + 1 by omega]
    refine ⟨q + q3 - q4 - q2, ?_⟩
    rw [Int.mul_sub, Int.mul_sub, Int.mul_add]
    omega
/-- by a head whose place is the last -/
theorem LabC.S (L : LabC up m d H lab) (g : OkR up) {i : Nat} (hi : i < up.length) {x : List Int} (hx : OkE up x) (hl : Low i x) : Cg m (dfD up d H x (headV up.length i)) 0 := by
  have n2 := g.get hi
  have z := zero_el g
  obtain ⟨x0, x1⟩ := hx.get hi
  have xl : i < x.length := by rw [hx.len]; exact hi
  by_cases h : x.getD i 0 + 1 < up.getD i 0
  · exact L.step1 g hi hx hl h
  · obtain ⟨n, hn⟩ : ∃ n : Nat, x.getD i 0 = (n : Int) := ⟨(x.getD i 0).toNat, by omega⟩
    have hb := set_el hx hi (k := 0) (by omega) (by omega)
    have b0 : (x.set i 0).getD i 0 = 0 := by rw [set_at xl, if_pos rfl]
    have bl := low_set (k := 0) xl hl
    obtain ⟨q, e⟩ := L.base g hi hb bl b0 n (by omega)
    have sh := set_heads (k := n) g z hi (zeroV_at up i) (by omega)
    rw [put0l g (times_el g (headV_len _ _))] at sh
    have zx := set_el z hi (k := (n : Nat)) (by omega) (by omega)
    obtain ⟨q2, e2⟩ := L.D_coc g hb zx (head_el g i)
    have sb := set_heads (k := n) g hb hi b0 (by omega)
    have eb : putV up (x.set i 0) ((zeroV up).set i (n : Nat)) = x := by rw [← sh, sb, set_set, ← hn, set_same xl]
    have back : putV up ((zeroV up).set i (n : Int)) (headV up.length i) = zeroV up := by
      rw [← sh, times_succ (headV_len _ _), show ((n + 1 : Nat) : Int) = up.getD i 0 by omega, times_nil g i hi]
    obtain ⟨q3, e3⟩ := L.wrap0 g hi
    rw [show up.getD i 0 - 1 = (n : Int) by omega] at e3
    obtain ⟨q4, e4⟩ := L.Dx0 g hb
    rw [eb, back] at e2
    refine ⟨q2 + q3 + q4 - q, ?_⟩
    rw [Int.mul_sub, Int.mul_add, Int.mul_add]
    omega
theorem low_head {i j : Nat} (h : i ≤ j) : Low j (headV up.length i) := fun k hk => by
  by_cases q : k < up.length
  · rw [headV_at q, if_neg (by omega)]
  · rw [List.getD_eq_getElem?_getD, List.getElem?_eq_none (by rw [headV_len]; omega)]
    rfl
theorem LabC.heads2 (L : LabC up m d H lab) (g : OkR up) {i j : Nat} (hij : i < j) (hj : j < up.length) : Cg m (dfD up d H (headV up.length i) (headV up.length j)) 0 ∧ Cg m (dfD up d H (headV up.length j) (headV up.length i)) 0 := by
  obtain ⟨q, e⟩ := L.S g hj (head_el g i) (low_head (by omega))
  refine ⟨⟨q, e⟩, ?_⟩
  obtain ⟨q2, e2⟩ := L.od i j hij hj
  unfold dfD at e ⊢
  refine ⟨q - q2, ?_⟩
  rw [putV_comm (headV_len _ _) (headV_len _ _), Int.mul_sub]
  omega
theorem low_put {x y : List Int} {j : Nat} (g : OkR up) (hx : OkE up x) (hy : OkE up y) (h1 : Low j x) (h2 : Low j y) : Low j (putV up x y) := fun k hk => by
  by_cases q : k < up.length
  · rw [putV_at q hx.len hy.len, h1 k hk, h2 k hk]
    simp
  · rw [List.getD_eq_getElem?_getD, List.getElem?_eq_none (by rw [putV_len hx.len hy.len]; omega)]
    rfl
/-- by a head, whatever stands behind it -/
theorem LabC.T (L : LabC up m d H lab) (g : OkR up) {i : Nat} (hi : i < up.length) : ∀ j : Nat, i ≤ j → j < up.length → ∀ (n : Nat) (x : List Int), OkE up x → Low j x → x.getD j 0 = (n : Int) → Cg m (dfD up d H x (headV up.length i)) 0 := by
  intro j
  induction j with
  | zero =>
    intro hij hj n x hx hl _
    have : i = 0 := by omega
    subst this
    exact L.S g hi hx hl
  | succ j ih =>
    intro hij hj n
    by_cases q : i = j + 1
    · subst q
      intro x hx hl _
      exact L.S g hi hx hl
    · induction n with
      | zero =>
        intro x hx hl h0
        refine ih (by omega) (by omega) (x.getD j 0).toNat x hx (fun k hk => ?_) ?_
        · by_cases r : k = j + 1
          · subst r; exact h0
          · exact hl k (by omega)
        · have := hx.get (i := j) (by omega)
          omega
      | succ n ihn =>
        intro x hx hl hn
        have xl : j + 1 < x.length := by rw [hx.len]; exact hj
        have xb := hx.get hj
        have hx' := set_el hx hj (k := (n : Int)) (by omega) (by omega)
        have l' := low_set (k := (n : Int)) xl hl
        have a0 := ihn _ hx' l' (by rw [set_at xl, if_pos rfl])
        have hj1 := head_el g (j + 1)
        have hi1 := head_el g i
        obtain ⟨q1, e1⟩ := a0
        obtain ⟨q2, e2⟩ := L.D_coc g hx' hj1 hi1
        obtain ⟨q3, e3⟩ := L.D_coc g hx' hi1 hj1
        obtain ⟨q4, e4⟩ := L.S g hj hx' l'
        obtain ⟨q5, e5⟩ := L.S g hj (put_el g hx'.len hi1.len) (low_put g hx' hi1 l' (low_head (by omega)))
        obtain ⟨⟨q6, e6⟩, q7, e7⟩ := L.heads2 g (i := i) (j := j + 1) (by omega) hj
        rw [set_head g hx hj (by omega) (by omega), show (n : Int) + 1 = x.getD (j + 1) 0 by omega, set_same xl, putV_comm hj1.len hi1.len] at e2
        refine ⟨q2 - q4 + q7 + q1 + q5 - q6 - q3, ?_⟩
        simp only [Int.mul_sub, Int.mul_add]
        omega
theorem LabC.all_heads (L : LabC up m d H lab) (g : OkR up) {i : Nat} (hi : i < up.length) {x : List Int} (hx : OkE up x) : Cg m (dfD up d H x (headV up.length i)) 0 := by
  have hn : up.length - 1 < up.length := by omega
  refine L.T g hi (up.length - 1) (by omega) hn (x.getD (up.length - 1) 0).toNat x hx (fun j hj => ?_) (by have := hx.get hn; omega)
  rw [List.getD_eq_getElem?_getD, List.getElem?_eq_none (by rw [hx.len]; omega)]
  rfl
theorem sum_set : ∀ (x : List Int) (i : Nat) (k : Int), i < x.length → (x.set i k).sum = x.sum - x.getD i 0 + k
  | [], _, _, h => by simp at h
  | a :: x, 0, k, _ => by simp; omega
  | a :: x, i + 1, k, h => by
    have := sum_set x i k (by simpa using h)
    simp at this ⊢
    omega
/-- .. and so by all -/
theorem LabC.all (L : LabC up m d H lab) (g : OkR up) : ∀ (n : Nat) (y : List Int), OkE up y → y.sum = (n : Int) → ∀ x, OkE up x → Cg m (dfD up d H x y) 0 := by
  intro n
  induction n with
  | zero =>
    intro y hy hs x hx
    have e : y = zeroV up := by
      refine ext_getD (by rw [hy.len]; unfold zeroV; simp) fun i hi => ?_
      rw [zeroV_at]
      have hi : i < up.length := by unfold zeroV at hi; simpa using hi
      by_cases q : y.getD i 0 = 0
      · exact q
      · have nn : ∀ z : List Int, (∀ i, i < z.length → 0 ≤ z.getD i 0) → 0 ≤ z.sum := fun z => by
          induction z with
          | nil => intro _; simp
          | cons a z ih =>
            intro h
            have h0 := h 0 (by simp)
            have h1 := ih fun i hi => by have := h (i + 1) (by simpa using hi); simpa using this
            simp at h0 ⊢
            omega
        have yl : i < y.length := by rw [hy.len]; exact hi
        have p := nn (y.set i 0) fun j hj => by
          rw [set_at yl]
          split
          · omega
          · rw [set_len] at hj
            exact (hy.get (by rw [← hy.len]; exact hj)).1
        rw [sum_set y i 0 yl] at p
        have := hy.get hi
        omega
    rw [e]
    exact L.Dx0 g hx
  | succ n ih =>
    intro y hy hs x hx
    obtain ⟨i, hi, h1⟩ : ∃ i, i < up.length ∧ 1 ≤ y.getD i 0 := by
      by_cases q : ∃ i, i < up.length ∧ 1 ≤ y.getD i 0
      · exact q
      · exfalso
        have np : ∀ z : List Int, (∀ i, i < z.length → z.getD i 0 ≤ 0) → z.sum ≤ 0 := fun z => by
          induction z with
          | nil => intro _; simp
          | cons a z ih =>
            intro h
            have h0 := h 0 (by simp)
            have h1 := ih fun i hi => by have := h (i + 1) (by simpa using hi); simpa using this
            simp at h0 ⊢
            omega
        have := np y fun i hi => by
          by_cases r : 1 ≤ y.getD i 0
          · exact absurd ⟨i, by rw [← hy.len]; exact hi, r⟩ q
          · omega
        omega
    have yl : i < y.length := by rw [hy.len]; exact hi
    have yb := hy.get hi
    have hy' := set_el hy hi (k := y.getD i 0 - 1) (by omega) (by omega)
    obtain ⟨q1, e1⟩ := ih _ hy' (by rw [sum_set y i _ yl]; omega) x hx
    obtain ⟨q2, e2⟩ := L.D_coc g hx hy' (head_el g i)
    obtain ⟨q3, e3⟩ := L.all_heads g hi (put_el g hx.len hy'.len)
    obtain ⟨q4, e4⟩ := L.all_heads g hi hy'
    rw [set_head g hy hi (by omega) (by omega), show y.getD i 0 - 1 + 1 = y.getD i 0 by omega, set_same yl] at e2
    refine ⟨q1 + q3 - q4 - q2, ?_⟩
    simp only [Int.mul_sub, Int.mul_add]
    omega
end
end Mir
namespace Mir
open PySem PySem.Spec PyProof.Rows L2
variable [Tn]
abbrev ZRec (h : Heap) (z TI TO : Addr) (f0 f1 : Value) : Prop :=
  h.get? z = some { cls := .type "zip", dict := none, data := .fields #[f0, f1, .bool false, .ref TI, .ref TO], slots := #[] }
section
variable {prog : Program} {w : World} {A : Around} {E : Value → Shared → Prop} {s : Shared}
/-- a zip between two turns: nothing given out, or a tuple that is still there or gone -/
def ZSt (h : Heap) (z TI TO : Addr) : Prop := ZRec h z TI TO .none (.bool false) ∨ ∃ (T : Addr) (f : Bool), ZRec h z TI TO (rawInt T) (.bool f)
end
end Mir
namespace Mir
open PySem PySem.Spec PyProof.Rows L2
variable [Tn]
/-- what a turn of the zip leaves -/
structure ZAll (h : Heap) (z TI TO i1 i2 l1 l2 : Addr) (k1 k2 : Bool) (p : Nat) : Prop where
  st : ZSt h z TI TO
  ti : IsT h TI #[.ref i1, .ref i2]
  to_ : ∃ o1 o2 : Value, IsT h TO #[o1, o2]
  n1 : SIt h k1 i1 l1 p
  n2 : SIt h k2 i2 l2 p
theorem ZSt.at {h h' : Heap} {z TI TO : Addr} (x : ZSt h z TI TO) (f : ∀ o, h.get? z = some o → h'.get? z = some o) : ZSt h' z TI TO := by
  rcases x with x | ⟨T, g, x⟩
  · exact .inl (f _ x)
  · exact .inr ⟨T, g, f _ x⟩
theorem ZSt.ob {h : Heap} {z TI TO : Addr} (x : ZSt h z TI TO) : ∃ o, h.get? z = some o ∧ ∀ v, o.data ≠ .cell v := by
  rcases x with x | ⟨T, g, x⟩
  · exact ⟨_, x, fun v q => nomatch q⟩
  · exact ⟨_, x, fun v q => nomatch q⟩
theorem ZSt.lt {h : Heap} {z TI TO : Addr} (x : ZSt h z TI TO) : z < h.objs.size := let ⟨_, e, _⟩ := x.ob; Heap.lt_size e
section
variable {h h' : Heap} {z TI TO i1 i2 l1 l2 : Addr} {k1 k2 : Bool} {p : Nat}
theorem ZAll.at (x : ZAll h z TI TO i1 i2 l1 l2 k1 k2 p) (f : ∀ b, (b = z ∨ b = TI ∨ b = TO ∨ b = i1 ∨ b = i2) → ∀ o, h.get? b = some o → h'.get? b = some o) : ZAll h' z TI TO i1 i2 l1 l2 k1 k2 p where
  st := x.st.at (f z (.inl rfl))
  ti := f TI (.inr (.inl rfl)) _ x.ti
  to_ := let ⟨o1, o2, e⟩ := x.to_; ⟨o1, o2, f TO (.inr (.inr (.inl rfl))) _ e⟩
  n1 := x.n1.at (f i1 (.inr (.inr (.inr (.inl rfl)))))
  n2 := x.n2.at (f i2 (.inr (.inr (.inr (.inr rfl)))))
theorem ZAll.lt (x : ZAll h z TI TO i1 i2 l1 l2 k1 k2 p) {b : Addr} (hb : b = z ∨ b = TI ∨ b = TO ∨ b = i1 ∨ b = i2) : b < h.objs.size := by
  obtain ⟨o1, o2, e⟩ := x.to_
  rcases hb with q | q | q | q | q
  · rw [q]; exact x.st.lt
  · rw [q]; exact Heap.lt_size x.ti
  · rw [q]; exact Heap.lt_size e
  · rw [q]; exact x.n1.lt
  · rw [q]; exact x.n2.lt
end
end Mir
namespace Mir
open PySem PySem.Spec PyProof.Rows L2
variable [Tn]
section
variable {X : Cx} {W : Wi} {k : Nat}
@[simp] def tupRevD : D → Res D
  | .tup xs => .ok (.tup xs.reverse)
  | _ => .bad
end
end Mir
namespace Mir
open PySem PySem.Spec PyProof.Rows L2
variable [Tn]
def capsD : List Nat → Env → Res (List D)
  | [], _ => .ok []
  | j :: js, r => getS j r >>= fun d => capsD js r >>= fun ds => .ok (d :: ds)
@[simp] theorem capsD_nil (r : Env) : capsD [] r = .ok [] := rfl
@[simp] theorem capsD_cons (j : Nat) (js : List Nat) (r : Env) : capsD (j :: js) r = (getS j r >>= fun d => capsD js r >>= fun ds => .ok (d :: ds)) := rfl
end Mir
namespace Mir
section
variable [Tn]
/-- a dict filled by a rule -/
theorem fillRule {κ β : Type} [DecidableEq κ] {N : Nat} {α : Type} {f : D → Env → Oc} (A : α → D) (kx : α → κ) (g : κ → β) (P : List (κ × β) → Env → Prop) : ∀ {X : List α} {L : List (κ × β)} {r : Env}, L.length + X.length ≤ N → (X.map kx).Nodup → (∀ a ∈ X, kx a ∉ L.map (·.1)) →
    (∀ L, L.length < N → ∀ a ∈ X, kx a ∉ L.map (·.1) → ∀ r, P L r → ∃ r', f (A a) r = .nx r' ∧ P (setA L (kx a) (g (kx a))) r') → P L r →
    ∃ r', forD f (X.map A) r = .nx r' ∧ P (L ++ X.map fun a => (kx a, g (kx a))) r'
  | [], L, r, _, _, _, _, hp => ⟨r, rfl, by simpa using hp⟩
  | a :: X, L, r, hl, hn, hf, h, hp => by
    rw [List.length_cons] at hl
    rw [List.map_cons, List.nodup_cons] at hn
    obtain ⟨r1, e1, p1⟩ := h L (by omega) a List.mem_cons_self (hf a List.mem_cons_self) r hp
    rw [setA_new _ (hf a List.mem_cons_self)] at p1
    obtain ⟨r2, e2, p2⟩ := fillRule A kx g P (X := X) (L := L ++ [(kx a, g (kx a))]) (r := r1) (by simp; omega) hn.2 (fun z hz hm => by
      rw [List.map_append, List.mem_append] at hm
      rcases hm with m | m
      · exact hf z (List.mem_cons_of_mem _ hz) m
      · rw [List.map_cons, List.map_nil, List.mem_singleton] at m
        have m : kx z = kx a := m
        exact hn.1 (m ▸ List.mem_map_of_mem hz)) (fun L hL b hb => h L hL b (List.mem_cons_of_mem _ hb)) p1
    refine ⟨r2, ?_, ?_⟩
    · rw [List.map_cons, forD_cons, e1]
      exact e2
    · rw [List.map_cons, List.append_cons]
      exact p2
end
end Mir
namespace Mir
open PySem PySem.Spec PyProof.Rows L2
variable [Tn]
section
variable {X : Cx} {W : Wi}
theorem Own.opts {G : GC} {F H : Hp} {l : List Shape} {v : V} {d : D} {A : List Addr} (h : Own G F H (.parts l) v d A) : Own G F H (.opts l) v d A := by
  cases h with
  | lst h0 h1 h2 h3 h4 => exact .lst rfl h1 h2 h3 h4
  | tup h0 h1 h2 h3 h4 => exact .tup rfl h1 h2 h3 h4
  | dic h0 h1 h2 z1 z2 z3 z4 z5 h3 h4 => exact .dic rfl h1 h2 z1 z2 z3 z4 z5 h3 h4
  | obj h0 h1 h2 z h3 h4 => exact .obj rfl h1 h2 z h3 h4
end
end Mir
namespace Mir
open PySem PySem.Spec PyProof.Rows L2
variable [Tn]
theorem each_of_vals {its : List Value} : ∀ {bs : List (V × PyData)}, Vals (bs.map (·.1)) its → PySem.W.EachIs (fun v (b : V × PyData) => RelV b.1 v) its bs := by
  induction its with
  | nil =>
    intro bs h
    cases bs with
    | nil => exact .nil
    | cons b bs => cases h
  | cons v its ih =>
    intro bs h
    cases bs with
    | nil => cases h
    | cons b bs =>
      cases h with
      | cons r t => exact .cons r (ih t)
theorem vals_of_each : ∀ {its : List Value} {bs : List (V × PyData)}, PySem.W.EachIs (fun v (b : V × PyData) => RelV b.1 v) its bs → Vals (bs.map (·.1)) its
  | _, _, .nil => .nil
  | _, _, .cons r t => .cons r (vals_of_each t)
theorem each_and {α β : Type} {R S : α → β → Prop} : ∀ {as : List α} {bs : List β}, PySem.W.EachIs R as bs → (∀ b ∈ bs, ∀ a, R a b → S a b) → PySem.W.EachIs S as bs
  | _, _, .nil, _ => .nil
  | _, _, .cons r t, h => .cons (h _ List.mem_cons_self _ r) (each_and t fun b hb => h b (List.mem_cons_of_mem _ hb))
def tupB : PyData → Bool
  | .tuple (_ :: _) => true
  | _ => false
def sortB (ps : List PyData) : Bool := ps.all (fun d => ps.all fun d' => PySem.W.alike d d') && (ps.all tupB && ps.all fun d => decide (d.depth ≤ 50))
def sortedX : D → Res D
  | .lst xs => match toPy.toPys xs with
    | some ps => if sortB ps = true then .ok (.lst (((xs.zip ps).mergeSort (PySem.W.dataLe false (·.2))).map (·.1))) else .bad
    | none => .bad
  | _ => .bad
theorem rep_all_map {G : GC} {F : Hp} : ∀ {T : List (V × D × PyData)}, (∀ t ∈ T, Rep G F t.1 t.2.1) → RepAll G F (T.map (·.1)) (T.map (·.2.1))
  | [], _ => .nil
  | t :: T, h => .cons (h t List.mem_cons_self) (rep_all_map fun u hu => h u (List.mem_cons_of_mem _ hu))
/-- the three rows side by side -/
theorem rows3 {G : GC} {F H : Hp} : ∀ {vs : List V} {xs : List D} {ps : List PyData}, RepAll G F vs xs → DpAll G.K H vs ps → ∃ T : List (V × D × PyData), T.map (·.1) = vs ∧ T.map (·.2) = xs.zip ps ∧ T.map (·.2.2) = ps ∧ (∀ t ∈ T, Rep G F t.1 t.2.1) ∧ ∀ t ∈ T, Dp G.K H t.1 t.2.2
  | _, _, _, .nil, .nil => ⟨[], rfl, rfl, rfl, by simp, by simp⟩
  | _, _, _, .cons r rt, .cons d dt => by
    obtain ⟨T, h1, h2, h3, h4, h5⟩ := rows3 rt dt
    refine ⟨(_, _, _) :: T, by rw [List.map_cons, h1], by rw [List.map_cons, h2, List.zip_cons_cons], by rw [List.map_cons, h3], fun t ht => ?_, fun t ht => ?_⟩
    · rcases List.mem_cons.mp ht with rfl | ht
      · exact r
      · exact h4 t ht
    · rcases List.mem_cons.mp ht with rfl | ht
      · exact d
      · exact h5 t ht
theorem tupB_some {p : PyData} (h : tupB p = true) : ∃ x r, p = .tuple (x :: r) := by
  unfold tupB at h
  split at h
  · exact ⟨_, _, rfl⟩
  · cases h
end Mir
namespace Mir
open PySem PySem.Spec PyProof.Rows L2
variable [Tn]
section
variable {X : Cx} {W : Wi} {k : Kd}
theorem PG.or {e : Expr} {t1 t2 : TG} (h1 : PG X e t1) (h2 : PG X e t2) : PG X e (fun v σ H Q => t1 v σ H Q ∨ t2 v σ H Q) :=
  ⟨fun pins s σ H v u Q I r hw => hw.elim (fun h => h1.run pins s σ H v u Q I r h) fun h => h2.run pins s σ H v u Q I r h⟩
end
end Mir
namespace Mir
open PySem PySem.Spec PyProof.Rows L2
variable [Tn]
mutual
theorem reads_in {h : Heap} : ∀ {v : Value} {d : PyData} {as : List Addr}, Reads h v d as → ∀ b ∈ as, ∃ o, h.get? b = some o
  | _, _, _, .none, _, m => nomatch m
  | _, _, _, .bool _, _, m => nomatch m
  | _, _, _, .int _ _, _, m => nomatch m
  | _, _, _, .str _ _, _, m => nomatch m
  | _, _, _, .list ho _ _ r, b, m => by
    rcases List.mem_cons.mp m with rfl | m
    · exact ⟨_, ho⟩
    · exact readsAll_in r b m
  | _, _, _, .tuple _ _ _ r, b, m => readsAll_in r b m
  | _, _, _, .dict ho _ _ r1 r2, b, m => by
    rcases List.mem_cons.mp m with rfl | m
    · exact ⟨_, ho⟩
    · rcases List.mem_append.mp m with m | m
      · exact readsAll_in r1 b m
      · exact readsAll_in r2 b m
theorem readsAll_in {h : Heap} : ∀ {vs : List Value} {ds : List PyData} {as : List Addr}, ReadsAll h vs ds as → ∀ b ∈ as, ∃ o, h.get? b = some o
  | _, _, _, .nil, _, m => nomatch m
  | _, _, _, .cons r t, b, m => by
    rcases List.mem_append.mp m with m | m
    · exact reads_in r b m
    · exact readsAll_in t b m
end
theorem dpAll_zip {K : PySem.W.Frag} {H : Hp} : ∀ {vs : List V} {ps : List PyData}, DpAll K H vs ps → ((vs.zip ps).map (·.1) = vs ∧ (vs.zip ps).map (·.2) = ps) ∧ ∀ b ∈ vs.zip ps, Dp K H b.1 b.2
  | _, _, .nil => ⟨⟨rfl, rfl⟩, by simp⟩
  | _, _, .cons r t => by
    obtain ⟨⟨h1, h2⟩, h3⟩ := dpAll_zip t
    refine ⟨⟨by rw [List.zip_cons_cons, List.map_cons, h1], by rw [List.zip_cons_cons, List.map_cons, h2]⟩, fun b hb => ?_⟩
    rw [List.zip_cons_cons] at hb
    rcases List.mem_cons.mp hb with rfl | hb
    · exact r
    · exact h3 b hb
end Mir
namespace Mir
open PySem PySem.Spec PyProof.Rows L2
variable [Tn]
theorem re_never {X : Cx} {W : Wi} {k : Kd} {e : Expr} : RE X W k e (fun _ => .bad) := ⟨fun _ _ _ _ _ _ ⟨_, _, _, _, _, _, o⟩ => o.elim⟩
end Mir
namespace Mir
open PySem PySem.Spec PyProof.Rows L2
variable [Tn]
/-- a view of a dict's values -/
def vwO (d : Addr) : Obj := { cls := .type "dict_values", data := .fields #[.ref d] }
def tVals (G : GC) (td : TE) : TE := fun σ H Q => td σ H fun v H1 => ∃ (d : Addr) (o : Obj) (xs : List EN), v = .ref d ∧ H1 d = some (.ext (isObj' d o)) ∧ (d == sysModules) = false ∧ DicO G o xs ∧ ∀ a, H1 a = none → Q (.ref a) (upd H1 a (.ext (isObj' a (vwO d))))
section
variable {X : Cx} {e : Expr} {td : TE} {apos cpos : Pos}
theorem pe_vals (he : PE X e td) (hbase : attributeBase e "values" X.env (eval e X.env) = eval e X.env := by rfl) (hline : (apos.endLine == cpos.line) = true := by rfl) : PE X (.Call (.Attribute e "values" apos) [] [] cpos) (tVals (gOf X) td) := by
  refine ⟨fun pins s σ H Q I h => ?_⟩
  refine wpAny_Call_method (T := "dict") (id := "dict.values") hbase rfl hline F.plainAttrs_dict F.slot_dict_values F.type_dict_values (thn (he.run pins s σ H _ I h) fun u s1 ⟨x, H1, I1, rx, d, o, xs, ex, hd, hn, dd, q⟩ => ?_)
  subst ex
  obtain rfl : u = Value.ref d := rx
  obtain ⟨es, ep, h1, h2⟩ := dd.dat
  have hr := ext_raw I1 hd dd.ex h1
  have ho : s1.heap.get? d = some o := (I1.hok d _ hd).1
  refine ⟨hr.typeIs, fun a ea => by cases ea; exact ⟨o, ho, dd.ex.2.1⟩, ?_⟩
  have hf := I1.hok.fresh (Nat.le_refl s1.heap.objs.size)
  show wpAny _ _ (callWith cpos (.builtin "dict.values") [.ref d] [] []) _ X.xe s1
  refine method_meetsIn F.slot_dict_values F.entry_dict_values rfl (PySem.evalArgs_none ⟨rfl, hr.typeIs, F.args_dict_values_1 _, _, meets_dict_values_raw d hn, ⟨es, ep, hr⟩, ?_⟩)
  exact ⟨.ref s1.heap.objs.size, _, I1.laid (a := s1.heap.objs.size) (o := .ext (isObj' s1.heap.objs.size (vwO d))) (t' := s1.toks) (fun _ _ q => Heap.get?_push_of_some _ q) (Nat.le_refl _) (ext_ok (Heap.get?_push_size _ rfl)), rfl, q _ hf⟩
def rSortV (X : Cx) : List V → Hp → VK → Prop := fun vs H Q => ∃ (a p : Addr) (o : Obj) (xs : List EN) (ws : List V) (ps : List PyData), vs = [.ref a] ∧ H a = some (.ext (isObj' a (vwO p))) ∧ H p = some (.ext (isObj' p o)) ∧ DicO (gOf X) o xs ∧ Vals ws (xs.map (·.2.2)) ∧
  DpAll X.K H ws ps ∧ PySem.W.AllAlike ps ∧ PySem.W.Sortable ps ∧ (∀ b ∈ ps, b.depth ≤ 50) ∧
  ∀ l, H l = none → Q (.ref l) (upd H l (.lst (((ws.zip ps).mergeSort (PySem.W.dataLe false (·.2))).map (·.1))))
theorem call_sortedV (hcalm : X.calm = true) (hu : X.A.units + 65 < cLine) : CallR X (.builtin "sorted") (rSortV X) := by
  intro pins s σ H xs us Q I r q
  obtain ⟨a, p, o, es, ws, ps, rfl, ha, hp, dd, hw, hdp, hal, hk, hdep, q⟩ := q
  obtain ⟨u, rfl, rx⟩ := vals1 r
  cases rx
  obtain ⟨⟨z1, z2⟩, z3⟩ := dpAll_zip hdp
  generalize hbs : ws.zip ps = bs at *
  obtain ⟨ar, ep, hd, he⟩ := dd.dat
  have hraw := ext_raw I hp dd.ex hd
  have hsz : ar.size = es.length := by
    have := congrArg List.length he
    rw [List.length_map, Array.length_toList] at this
    exact this
  have hz := dd.sz
  have hview : s.heap.IsValuesView a p := ⟨_, (I.hok a _ ha).1, rfl, rfl⟩
  refine Calls.call_function_entry PyProof.Rows.kind_sorted PyProof.Rows.plain_sorted PyProof.Rows.entry_sorted (PyProof.Rows.args_sorted1 _) ?_
  unfold Builtin.«sorted»
  refine wpAny_bind (m := checkCount "sorted" 1 1 _) (wpAny_pure ?_)
  refine wpAny_bind (PySem.W.kdu_collect (A := X.A.in1) (KdlSrc.rawValues (ep := ep)) (I.ok.hd hcalm) ⟨hview, hraw⟩ (by rw [hsz]; exact hz) fun h' tk acc hk' hacc => ?_)
  have ea : acc.toList = es.map (·.2.2) := by
    refine List.ext_getElem? fun j => ?_
    rw [Array.getElem?_toList, List.getElem?_map]
    cases e : acc[j]? with
    | none =>
      have hj : acc.size ≤ j := Array.getElem?_eq_none_iff.mp e
      rw [hacc.1, hsz] at hj
      rw [List.getElem?_eq_none hj]
      rfl
    | some v =>
      obtain ⟨hi, rfl⟩ := hacc.2 j v e
      obtain ⟨x, e1, e2, e3⟩ := ent_at he hi
      rw [e1, e3]
      rfl
  have I1 : Inv X pins σ H { s with heap := h', toks := tk } := I.kept hk'
  have al : acc.toList.length = es.length := by rw [ea, List.length_map]
  refine wpAny_bind (wpAny_newList ?_ (by rw [al]; exact hz))
  have hoL : (h'.push (seqObj "list" acc.toList.toArray 0)).get? h'.objs.size = some (seqObj "list" acc.toList.toArray 0) := Heap.get?_push_size _ rfl
  show wpAny _ _ _ _ _ { s with heap := h'.push (seqObj "list" acc.toList.toArray 0), toks := tk }
  have rv : Vals (bs.map (·.1)) acc.toList := by rw [z1, ea]; exact hw
  have e := each_of_vals rv
  have er : PySem.W.EachIs (fun v (b : V × PyData) => ∃ as, Reads (h'.push (seqObj "list" acc.toList.toArray 0)) v b.2 as ∧ h'.objs.size ∉ as) acc.toList bs := each_and e fun b hb v rb => by
    obtain ⟨as, ra⟩ := Dp.reads I1 b.2 b.1 v (z3 b hb) rb
    refine ⟨as, PyProof.Rows.Reads.keeps (fun _ _ h => Heap.get?_push_of_some _ h) ra, fun hm => ?_⟩
    obtain ⟨o', ho'⟩ := reads_in ra _ hm
    exact absurd (Heap.lt_size ho') (Nat.lt_irrefl _)
  have hzb : bs.length ≤ sizeLine := by
    have h1 := congrArg List.length z1
    have h2 := hw.length
    rw [List.length_map] at h1 h2
    omega
  refine wpAny_bind (wpAny_holding (PySem.W.list_sort_data (R := fun v (b : V × PyData) => RelV b.1 v) (enc := (·.2)) (vs := acc.toList) (bs := bs) (s := { s with heap := h'.push (seqObj "list" acc.toList.toArray 0), toks := tk }) hoL e er (by rw [z2]; exact hal) (by rw [z2]; exact hk) hzb (fun b hb => by
    have : b.2 ∈ ps := by rw [← z2]; exact List.mem_map_of_mem hb
    have := hdep _ this
    show X.A.units + 1 + 1 + _ < cLine
    omega) fun out ho eo => ?_))
  obtain ⟨e', he'⟩ := PyProof.Rows.sortedHeap_at (vs := acc.toList) (out := out.toArray) hoL
  have rvo := vals_of_each eo
  refine wpAny_pure ⟨_, rfl, .ref h'.objs.size, upd H h'.objs.size (.lst ((bs.mergeSort (PySem.W.dataLe false (·.2))).map (·.1))), I1.laid (t' := tk) (fun b u e => ?_) (Nat.le_refl _)
    (show ObjOk X.prog X.w _ _ _ (.lst _) from ⟨by rw [List.length_map, List.length_mergeSort]; exact hzb, out, e', rvo, he'⟩), rfl, q _ (I1.hok.fresh (Nat.le_refl _))⟩
  have hb : b < h'.objs.size := Heap.lt_size e
  rw [PyProof.Rows.sortedHeap_old (Nat.ne_of_lt hb) (by rw [size_push']; exact Nat.lt_succ_of_lt hb)]
  exact Heap.get?_push_of_some _ e
end
def sortedVD : D → Res D
  | .dic _ vs => match toPy.toPys vs with
    | some ps => if sortB ps = true then .ok (.lst (((vs.zip ps).mergeSort (PySem.W.dataLe false (·.2))).map (·.1))) else .bad
    | none => .bad
  | _ => .bad
section
variable {X : Cx} {W : Wi}
theorem re_sortV {k : Nat} {e : Expr} {fe : Env → Res D} {p apos cpos pos : Pos} (hr : Room k X.A) (hc : X.calm = true) (hm : X.mg "sorted" = none) (he : RE X W .R e fe) (hg : Gl X "sorted" := by rfl) (hbase : attributeBase e "values" X.env (eval e X.env) = eval e X.env := by rfl) (hline : (apos.endLine == cpos.line) = true := by rfl)
    (hs : starEach [.Call (.Attribute e "values" apos) [] [] cpos] X.env = (false, eval (.Call (.Attribute e "values" apos) [] [] cpos) X.env) :: starEach [] X.env := by rfl) (hpl : (backTo pos (starEach ([] : List Expr) X.env)).any (·.1) = false := by rfl) :
    RE X W (.O .flat) (.Call (.Name "sorted" p) [.Call (.Attribute e "values" apos) [] [] cpos] [] pos) (fun r => fe r >>= sortedVD) :=
  (pe_callB (call_sortedV hc (units65 hr)) hg hm boot_sorted (pa_cons (pe_vals he hbase hline) pa_nil hs) (by decide) (by decide) hs hpl).imp fun σ H Q ⟨H0, F0, fp, F, r, m, o⟩ => ⟨H0, F0, fp, F, r, m, o.bind fun F' H' d gr o2 v kv => by
    unfold sortedVD at o2
    split at o2
    · rename_i ks vs
      split at o2
      · rename_i ps hps
        split at o2
        · rename_i hb
          unfold sortB at hb
          rw [Bool.and_eq_true, Bool.and_eq_true] at hb
          obtain ⟨b1, b2, b3⟩ := hb
          obtain ⟨p, o, xs, ws, rfl, h1, h2, h3, h4⟩ := RdD.dr gr.sub (show RdD (gOf X) F' H' v _ from kv)
          refine ⟨p, o, xs, rfl, h1, h2, h3, fun a hfa => ?_⟩
          have gu : Grow F' H' F' (upd H' a (.ext (isObj' a (vwO p)))) := Grow.own gr.sub hfa
          have vr := h4.vr
          obtain ⟨T, t1, t2, t3, t4, t5⟩ := rows3 vr (RepAll.dp gu.sub vr hps)
          have hpa : p ≠ a := fun e => by
            subst e
            rw [hfa] at h1
            cases h1
          refine ⟨a, p, o, xs, ws, ps, rfl, upd_same, by rw [upd_ne hpa]; exact h1, h3, h4.wv, RepAll.dp gu.sub vr hps, fun d hd d' hd' => List.all_eq_true.mp (List.all_eq_true.mp b1 d hd) d' hd', .inl fun d hd => tupB_some (List.all_eq_true.mp b2 d hd), fun b hb => of_decide_eq_true (List.all_eq_true.mp b3 _ hb), fun l hl => ?_⟩
          have eb : (ws.zip ps).mergeSort (PySem.W.dataLe false (·.2)) = (T.mergeSort (PySem.W.dataLe false (·.2.2))).map fun t => (t.1, t.2.2) := by
            have z : ws.zip ps = T.map fun t => (t.1, t.2.2) := by
              rw [← t1, ← t3]
              clear t1 t2 t3 t4 t5
              induction T with
              | nil => rfl
              | cons t T ih => rw [List.map_cons, List.map_cons, List.zip_cons_cons, ih, List.map_cons]
            rw [z]
            exact (List.map_mergeSort (f := fun t : V × D × PyData => (t.1, t.2.2)) (r := PySem.W.dataLe false (·.2.2)) (s := PySem.W.dataLe false (·.2)) fun a _ b _ => rfl).symm
          have ex : (vs.zip ps).mergeSort (PySem.W.dataLe false (·.2)) = (T.mergeSort (PySem.W.dataLe false (·.2.2))).map (·.2) := by
            rw [← t2]
            exact (List.map_mergeSort (f := fun t : V × D × PyData => t.2) (r := PySem.W.dataLe false (·.2.2)) (s := PySem.W.dataLe false (·.2)) fun a _ b _ => rfl).symm
          rw [ex, List.map_map] at o2
          have rr : RepAll (gOf X) F' ((T.mergeSort (PySem.W.dataLe false (·.2.2))).map (·.1)) ((T.mergeSort (PySem.W.dataLe false (·.2.2))).map (·.2.1)) := rep_all_map fun t ht => t4 t (List.mem_mergeSort.mp ht)
          rw [eb, List.map_map]
          have gl : Grow F' H' F' (upd (upd H' a (.ext (isObj' a (vwO p)))) l (.lst ((T.mergeSort (PySem.W.dataLe false (·.2.2))).map ((·.1) ∘ fun t => (t.1, t.2.2))))) := gu.trans (Grow.own gu.sub hl)
          exact o2 _ _ gl _ ⟨[l], Own.lst rfl upd_same (gu.sub.free hl) (OwnAll.of_rep rr) (by simp), fun b hb => by rw [List.mem_singleton.mp hb]; exact gr.h.free (gu.h.free hl)⟩
        · exact o2.elim
      · exact o2.elim
    · exact o2.elim⟩
end
end Mir
set_option maxHeartbeats 0
namespace Mir.K19
open PySem PySem.Spec PyProof.Rows L2
def top (i : Nat) : Stmt := PySem.Challenge.pw_carrytower_k19_lying_and_over.main.body.getD i (.Pass ⟨0, 0, 0, 0⟩)
section
variable [Tn]
abbrev isC : List Nat := [10, 11, 12, 13, 14, 23, 24, 0, 2, 1]
abbrev isU : List Nat := [0, 12]
abbrev ctC : List Nat := [10, 11, 12, 13, 14, 23, 24]
abbrev ctU : List Nat := [10]
abbrev s_q_cell : Stmt := top 27
abbrev N_q_cell : List Str := ["_law_script", "_law_k", "_law_others", "_law_cell_here"]
theorem sc_q_cell : FnScope N_q_cell ["_law_script", "_law_k"] (defScope s_q_cell) := ⟨rfl, rfl, rfl, by decide +kernel, rfl, by decide +kernel, by decide +kernel⟩
abbrev s_q_elements : Stmt := top 28
abbrev N_q_elements : List Str := ["_law_rounds", "_law_found", "_law_number", "_law_more", "_law_x", "_law_here"]
theorem sc_q_elements : FnScope N_q_elements ["_law_rounds"] (defScope s_q_elements) := ⟨rfl, rfl, rfl, by decide +kernel, rfl, by decide +kernel, by decide +kernel⟩
abbrev s_q_all : Stmt := top 31
abbrev N_q_all : List Str := ["_law_group", "_law_found", "_law_a", "_law_x"]
theorem sc_q_all : FnScope N_q_all ["_law_group"] (defScope s_q_all) := ⟨rfl, rfl, rfl, by decide +kernel, rfl, by decide +kernel, by decide +kernel⟩
abbrev s_q_plus : Stmt := top 29
abbrev N_q_plus : List Str := ["_law_rounds", "_law_x", "_law_y", "_law_one", "_law_other", "_law_number"]
theorem sc_q_plus : FnScope N_q_plus ["_law_rounds", "_law_x", "_law_y"] (defScope s_q_plus) := ⟨rfl, rfl, rfl, by decide +kernel, rfl, by decide +kernel, by decide +kernel⟩
abbrev s_q_put : Stmt := top 30
abbrev N_q_put : List Str := ["_law_group", "_law_x", "_law_y", "_law_lower", "_law_upper", "_law_carries"]
theorem sc_q_put : FnScope N_q_put ["_law_group", "_law_x", "_law_y"] (defScope s_q_put) := ⟨rfl, rfl, rfl, by decide +kernel, rfl, by decide +kernel, by decide +kernel⟩
abbrev s_q_zero : Stmt := top 32
abbrev N_q_zero : List Str := ["_law_group", "_law_x"]
theorem sc_q_zero : FnScope N_q_zero ["_law_group"] (defScope s_q_zero) := ⟨rfl, rfl, rfl, by decide +kernel, rfl, by decide +kernel, by decide +kernel⟩
abbrev s_q_backs : Stmt := top 33
abbrev N_q_backs : List Str := ["_law_group", "_law_zero_here", "_law_found", "_law_x", "_law_here"]
theorem sc_q_backs : FnScope N_q_backs ["_law_group"] (defScope s_q_backs) := ⟨rfl, rfl, rfl, by decide +kernel, rfl, by decide +kernel, by decide +kernel⟩
abbrev s_q_laid : Stmt := top 34
abbrev N_q_laid : List Str := ["_law_group", "_law_upper", "_law_script", "_law_at", "_law_some", "_law_backs_here", "_law_carried", "_law_marks", "_law_k", "_law_x", "_law_found", "_law_y", "_law_total", "_law_i", "_law_number"]
theorem sc_q_laid : FnScope N_q_laid ["_law_group", "_law_upper", "_law_script", "_law_at"] (defScope s_q_laid) := ⟨rfl, rfl, rfl, by decide +kernel, rfl, by decide +kernel, by decide +kernel⟩
abbrev s_is_whole : Stmt := top 12
abbrev N_is_whole : List Str := ["thing"]
theorem sc_is_whole : FnScope N_is_whole ["thing"] (defScope s_is_whole) := ⟨rfl, rfl, rfl, by decide +kernel, rfl, by decide +kernel, by decide +kernel⟩
abbrev s_are_rounds : Stmt := top 13
abbrev N_are_rounds : List Str := ["thing", "many", "number"]
theorem sc_are_rounds : FnScope N_are_rounds ["thing"] (defScope s_are_rounds) := ⟨rfl, rfl, rfl, by decide +kernel, rfl, by decide +kernel, by decide +kernel⟩
abbrev s_Rounds_init : Stmt := inClass (top 15) 0
abbrev N_Rounds_init : List Str := ["self", "rounds"]
theorem sc_Rounds_init : FnScope N_Rounds_init ["self", "rounds"] (defScope s_Rounds_init) := ⟨rfl, rfl, rfl, by decide +kernel, rfl, by decide +kernel, by decide +kernel⟩
abbrev s_Rounds_members : Stmt := inClass (top 15) 1
abbrev N_Rounds_members : List Str := ["self", "found", "number", "longer", "x", "here"]
theorem sc_Rounds_members : FnScope N_Rounds_members ["self"] (defScope s_Rounds_members) := ⟨rfl, rfl, rfl, by decide +kernel, rfl, by decide +kernel, by decide +kernel⟩
abbrev s_Tower_members : Stmt := inClass (top 25) 1
abbrev N_Tower_members : List Str := ["self", "found", "a", "x"]
theorem sc_Tower_members : FnScope N_Tower_members ["self"] (defScope s_Tower_members) := ⟨rfl, rfl, rfl, by decide +kernel, rfl, by decide +kernel, by decide +kernel⟩
abbrev s_Rounds_has : Stmt := inClass (top 15) 2
abbrev N_Rounds_has : List Str := ["self", "thing", "number", "most"]
theorem sc_Rounds_has : FnScope N_Rounds_has ["self", "thing"] (defScope s_Rounds_has) := ⟨rfl, rfl, rfl, by decide +kernel, rfl, by decide +kernel, by decide +kernel⟩
abbrev s_Group_look_at : Stmt := inClass (top 14) 1
abbrev N_Group_look_at : List Str := ["self", "thing"]
theorem sc_Group_look_at : FnScope N_Group_look_at ["self", "thing"] (defScope s_Group_look_at) := ⟨rfl, rfl, rfl, by decide +kernel, rfl, by decide +kernel, by decide +kernel⟩
abbrev s_Rounds_put : Stmt := inClass (top 15) 4
abbrev N_Rounds_put : List Str := ["self", "x", "y", "a", "b", "number"]
theorem sc_Rounds_put : FnScope N_Rounds_put ["self", "x", "y"] (defScope s_Rounds_put) := ⟨rfl, rfl, rfl, by decide +kernel, rfl, by decide +kernel, by decide +kernel⟩
abbrev s_Group_added : Stmt := inClass (top 14) 2
abbrev N_Group_added : List Str := ["self", "x", "y"]
theorem sc_Group_added : FnScope N_Group_added ["self", "x", "y"] (defScope s_Group_added) := ⟨rfl, rfl, rfl, by decide +kernel, rfl, by decide +kernel, by decide +kernel⟩
abbrev s_Tower_has : Stmt := inClass (top 25) 2
abbrev N_Tower_has : List Str := ["self", "thing"]
theorem sc_Tower_has : FnScope N_Tower_has ["self", "thing"] (defScope s_Tower_has) := ⟨rfl, rfl, rfl, by decide +kernel, rfl, by decide +kernel, by decide +kernel⟩
abbrev s_Table_carry : Stmt := inClass (top 20) 1
abbrev N_Table_carry : List Str := ["self", "x", "y"]
theorem sc_Table_carry : FnScope N_Table_carry ["self", "x", "y"] (defScope s_Table_carry) := ⟨rfl, rfl, rfl, by decide +kernel, rfl, by decide +kernel, by decide +kernel⟩
abbrev s_Tower_put : Stmt := inClass (top 25) 4
abbrev N_Tower_put : List Str := ["self", "x", "y", "lower", "carried"]
theorem sc_Tower_put : FnScope N_Tower_put ["self", "x", "y"] (defScope s_Tower_put) := ⟨rfl, rfl, rfl, by decide +kernel, rfl, by decide +kernel, by decide +kernel⟩
abbrev s_break_of_three : Stmt := top 21
abbrev N_break_of_three : List Str := ["table", "lower", "upper", "some", "x", "y", "z", "one", "other"]
theorem sc_break_of_three : FnScope N_break_of_three ["table"] (defScope s_break_of_three) := ⟨rfl, rfl, rfl, by decide +kernel, rfl, by decide +kernel, by decide +kernel⟩
abbrev s_NoTower_init : Stmt := inClass (top 8) 0
abbrev s_Rounds_nought : Stmt := inClass (top 15) 3
abbrev N_Rounds_nought : List Str := ["self", "number"]
theorem sc_Rounds_nought : FnScope N_Rounds_nought ["self"] (defScope s_Rounds_nought) := ⟨rfl, rfl, rfl, by decide +kernel, rfl, by decide +kernel, by decide +kernel⟩
abbrev s_Tower_init : Stmt := inClass (top 25) 0
abbrev N_Tower_init : List Str := ["self", "table", "three"]
theorem sc_Tower_init : FnScope N_Tower_init ["self", "table"] (defScope s_Tower_init) := ⟨rfl, rfl, rfl, by decide +kernel, rfl, by decide +kernel, by decide +kernel⟩
abbrev s_Group_size : Stmt := inClass (top 14) 0
abbrev N_Group_size : List Str := ["self"]
theorem sc_Group_size : FnScope N_Group_size ["self"] (defScope s_Group_size) := ⟨rfl, rfl, rfl, by decide +kernel, rfl, by decide +kernel, by decide +kernel⟩
abbrev s_Rounds_is_even : Stmt := inClass (top 15) 7
abbrev N_Rounds_is_even : List Str := ["self"]
theorem sc_Rounds_is_even : FnScope N_Rounds_is_even ["self"] (defScope s_Rounds_is_even) := ⟨rfl, rfl, rfl, by decide +kernel, rfl, by decide +kernel, by decide +kernel⟩
abbrev s_break_of_two : Stmt := top 22
abbrev N_break_of_two : List Str := ["table", "some", "x", "y"]
theorem sc_break_of_two : FnScope N_break_of_two ["table"] (defScope s_break_of_two) := ⟨rfl, rfl, rfl, by decide +kernel, rfl, by decide +kernel, by decide +kernel⟩
abbrev s_Tower_is_even : Stmt := inClass (top 25) 7
abbrev N_Tower_is_even : List Str := ["self"]
theorem sc_Tower_is_even : FnScope N_Tower_is_even ["self"] (defScope s_Tower_is_even) := ⟨rfl, rfl, rfl, by decide +kernel, rfl, by decide +kernel, by decide +kernel⟩
abbrev s_look_at_groups : Stmt := top 19
abbrev N_look_at_groups : List Str := ["lower", "upper"]
theorem sc_look_at_groups : FnScope N_look_at_groups ["lower", "upper"] (defScope s_look_at_groups) := ⟨rfl, rfl, rfl, by decide +kernel, rfl, by decide +kernel, by decide +kernel⟩
abbrev s_NoCarry_init : Stmt := inClass (top 7) 0
abbrev s_Table_init : Stmt := inClass (top 20) 0
abbrev N_Table_init : List Str := ["self", "lower", "upper", "carries", "some", "x", "y"]
theorem sc_Table_init : FnScope N_Table_init ["self", "lower", "upper", "carries"] (defScope s_Table_init) := ⟨rfl, rfl, rfl, by decide +kernel, rfl, by decide +kernel, by decide +kernel⟩
abbrev s_q_made : Stmt := top 35
abbrev N_q_made : List Str := ["_law_group"]
theorem sc_q_made : FnScope N_q_made ["_law_group"] (defScope s_q_made) := ⟨rfl, rfl, rfl, by decide +kernel, rfl, by decide +kernel, by decide +kernel⟩
abbrev s_Rounds_backed : Stmt := inClass (top 15) 5
abbrev N_Rounds_backed : List Str := ["self", "x", "a", "number"]
theorem sc_Rounds_backed : FnScope N_Rounds_backed ["self", "x"] (defScope s_Rounds_backed) := ⟨rfl, rfl, rfl, by decide +kernel, rfl, by decide +kernel, by decide +kernel⟩
abbrev s_Tower_backed : Stmt := inClass (top 25) 5
abbrev N_Tower_backed : List Str := ["self", "x", "lower", "other", "much"]
theorem sc_Tower_backed : FnScope N_Tower_backed ["self", "x"] (defScope s_Tower_backed) := ⟨rfl, rfl, rfl, by decide +kernel, rfl, by decide +kernel, by decide +kernel⟩
abbrev s_Tower_nought : Stmt := inClass (top 25) 3
abbrev N_Tower_nought : List Str := ["self"]
theorem sc_Tower_nought : FnScope N_Tower_nought ["self"] (defScope s_Tower_nought) := ⟨rfl, rfl, rfl, by decide +kernel, rfl, by decide +kernel, by decide +kernel⟩
abbrev s_Tower_lying : Stmt := inClass (top 25) 8
abbrev N_Tower_lying : List Str := ["self", "a", "lower"]
theorem sc_Tower_lying : FnScope N_Tower_lying ["self", "a"] (defScope s_Tower_lying) := ⟨rfl, rfl, rfl, by decide +kernel, rfl, by decide +kernel, by decide +kernel⟩
abbrev s_Tower_over : Stmt := inClass (top 25) 9
abbrev N_Tower_over : List Str := ["self", "x", "a"]
theorem sc_Tower_over : FnScope N_Tower_over ["self", "x"] (defScope s_Tower_over) := ⟨rfl, rfl, rfl, by decide +kernel, rfl, by decide +kernel, by decide +kernel⟩
abbrev s_q_near : Stmt := top 36
abbrev N_q_near : List Str := ["_law_last", "_law_inner", "_law_found", "_law_number"]
theorem sc_q_near : FnScope N_q_near ["_law_last"] (defScope s_q_near) := ⟨rfl, rfl, rfl, by decide +kernel, rfl, by decide +kernel, by decide +kernel⟩
abbrev s_q_refused : Stmt := top 37
abbrev N_q_refused : List Str := ["_law_way", "_law_tower", "_law_thing", "_law_kinds", "e"]
theorem sc_q_refused : FnScope N_q_refused ["_law_way", "_law_tower", "_law_thing"] (defScope s_q_refused) := ⟨rfl, rfl, rfl, by decide +kernel, rfl, by decide +kernel, by decide +kernel⟩
abbrev s_law : Stmt := top 38
abbrev N_law : List Str := ["_law_script", "_law_group", "_law_first", "_law_upper", "_law_whole", "_law_tower", "_law_zero_here", "_law_some", "_law_away", "_law_lying", "_law_a", "_law_k", "_law_b", "_law_x", "_law_turn", "_law_found", "_law_high", "_law_y", "_law_way", "_law_things", "_law_number"]
theorem sc_law : FnScope N_law ["_law_script"] (defScope s_law) := ⟨rfl, rfl, rfl, by decide +kernel, rfl, by decide +kernel, by decide +kernel⟩
def e_q_cell : Env → Oc := fun r => (lift ((((getS 0 r) >>= fun d => (.ok []) >>= fun ds => .ok (d :: ds)) >>= one lenD) >>= fun x => (.ok (.int 1)) >>= fun y => subD x y) r fun d => .nx (r.set 2 (.sh d))).seq fun r => ((lift ((((getS 2 r) >>= fun x => (.ok (.int 0)) >>= fun y => gtD x y) >>= asB) >>= fun t => if t = true then (((((getS 0 r) >>= fun x => (.ok (.int 0)) >>= fun y => ixD x y) >>= fun x => (.ok (.int 2)) >>= fun y => modD x y) >>= fun x => (.ok (.int 1)) >>= fun y => eqD x y) >>= asB) else .ok false) r fun t => if t = true then (lift ((((getS 0 r) >>= fun x => ((.ok (.int 1)) >>= fun x => ((getS 1 r) >>= fun x => (getS 2 r) >>= fun y => modD x y) >>= fun y => addD x y) >>= fun y => ixD x y) >>= fun x => ((.ok (.int 31)) >>= fun x => ((getS 1 r) >>= fun x => (getS 2 r) >>= fun y => divD x y) >>= fun y => mulD x y) >>= fun y => shrD x y) >>= fun x => (.ok (.int 2147483648)) >>= fun y => modD x y) r fun d => .rt d) else (.nx r)).seq fun r => ((lift (.ok (.int 0)) r fun d => .nx (r.set 3 (.sh d))).seq fun r => ((lift (((((getS 0 r) >>= fun d => (.ok []) >>= fun ds => .ok (d :: ds)) >>= one lenD) >>= fun x => (.ok (.int 0)) >>= fun y => gtD x y) >>= asB) r fun t => if t = true then (lift (((getS 0 r) >>= fun x => ((getS 1 r) >>= fun x => (((getS 0 r) >>= fun d => (.ok []) >>= fun ds => .ok (d :: ds)) >>= one lenD) >>= fun y => modD x y) >>= fun y => ixD x y) >>= fun x => ((.ok (.int 10)) >>= fun x => (.ok (.int 18)) >>= fun y => powD x y) >>= fun y => modD x y) r fun d => .nx (r.set 3 (.sh d))) else (.nx r)).seq fun r => (lift ((((((getS 3 r) >>= fun x => (.ok (.int 48271)) >>= fun y => mulD x y) >>= fun x => ((.ok (.int 16807)) >>= fun x => (getS 1 r) >>= fun y => mulD x y) >>= fun y => addD x y) >>= fun x => (.ok (.int 2147483647)) >>= fun y => modD x y) >>= fun x => (.ok (.int 69621)) >>= fun y => mulD x y) >>= fun x => (.ok (.int 2147483629)) >>= fun y => modD x y) r fun d => .rt d))))
def d_q_cell : List D → Res D := runD 2 N_q_cell.length e_q_cell
def q_elements_c1 (r : Env) (ds : List D) : Res (List D) := lcD (nameG 5)
  (fun r => .ok true)
  (fun r => (getS 4 r) >>= fun x => (((getS 5 r) >>= fun d => (.ok []) >>= fun ds => .ok (d :: ds)) >>= tupD) >>= fun y => addD x y)
  (wipeR r [5]) ds
def q_elements_l2 : D → Env → Oc := fun d r => (into ((nameG 4) d r)).seq fun r => (extG 3 (fun r => (((getS 2 r) >>= fun d => (.ok []) >>= fun ds => .ok (d :: ds)) >>= rng1) >>= fun ds => q_elements_c1 r ds >>= lstD) r)
def q_elements_l3 : D → Env → Oc := fun d r => (into ((nameG 2) d r)).seq fun r => ((lift ((.ok []) >>= lstD) r fun d => .nx (r.set 3 (.ow .flat d))).seq fun r => ((lift ((getS 1 r) >>= itemsD) r fun ds => forD (q_elements_l2) ds r).seq fun r => (frzAt 3 (fun r => lift (getS 3 r) r fun d => .nx (r.set 1 (.sh d))) r)))
def e_q_elements : Env → Oc := fun r => (lift ((((.ok []) >>= tupD) >>= fun d => (.ok []) >>= fun ds => .ok (d :: ds)) >>= lstD) r fun d => .nx (r.set 1 (.sh d))).seq fun r => ((lift ((getS 0 r) >>= itemsD) r fun ds => forD (q_elements_l3) ds r).seq fun r => (lift (getS 1 r) r fun d => .rt d))
def d_q_elements : List D → Res D := runD 1 N_q_elements.length e_q_elements
def q_all_r0_c1 (r : Env) (ds : List D) : Res (List D) := lcD (nameG 3)
  (fun r => .ok true)
  (fun r => ((getS 2 r) >>= fun d => ((getS 3 r) >>= fun d => (.ok []) >>= fun ds => .ok (d :: ds)) >>= fun ds => .ok (d :: ds)) >>= tupD)
  (wipeR r [3]) ds
def q_all_r0_l2 : D → Env → Oc := fun d r => (into ((nameG 2) d r)).seq fun r => (extG 1 (fun r => (((((getS 0 r) >>= fun x => (.ok (.int 1)) >>= fun y => ixD x y) >>= fun d => (.ok []) >>= fun ds => .ok (d :: ds)) >>= d_q_elements) >>= itemsD) >>= fun ds => q_all_r0_c1 r ds >>= lstD) r)
def e_q_all_r0 : Env → Oc := fun r => (lift (((((getS 0 r) >>= fun d => (.ok []) >>= fun ds => .ok (d :: ds)) >>= one lenD) >>= fun x => (.ok (.int 1)) >>= fun y => eqD x y) >>= asB) r fun t => if t = true then (lift ((((getS 0 r) >>= fun x => (.ok (.int 0)) >>= fun y => ixD x y) >>= fun d => (.ok []) >>= fun ds => .ok (d :: ds)) >>= d_q_elements) r fun d => .rt d) else (.nx r)).seq fun r => ((lift ((.ok []) >>= lstD) r fun d => .nx (r.set 1 (.ow .flat d))).seq fun r => ((lift ((.bad) >>= itemsD) r fun ds => forD (q_all_r0_l2) ds r).seq fun r => (frzAt 1 (fun r => lift (getS 1 r) r fun d => .rt d) r)))
def d_q_all_r0 : List D → Res D := runD 1 N_q_all.length e_q_all_r0
def q_all_r1_c1 (r : Env) (ds : List D) : Res (List D) := lcD (nameG 3)
  (fun r => .ok true)
  (fun r => ((getS 2 r) >>= fun d => ((getS 3 r) >>= fun d => (.ok []) >>= fun ds => .ok (d :: ds)) >>= fun ds => .ok (d :: ds)) >>= tupD)
  (wipeR r [3]) ds
def q_all_r1_l2 : D → Env → Oc := fun d r => (into ((nameG 2) d r)).seq fun r => (extG 1 (fun r => (((((getS 0 r) >>= fun x => (.ok (.int 1)) >>= fun y => ixD x y) >>= fun d => (.ok []) >>= fun ds => .ok (d :: ds)) >>= d_q_elements) >>= itemsD) >>= fun ds => q_all_r1_c1 r ds >>= lstD) r)
def e_q_all_r1 : Env → Oc := fun r => (lift (((((getS 0 r) >>= fun d => (.ok []) >>= fun ds => .ok (d :: ds)) >>= one lenD) >>= fun x => (.ok (.int 1)) >>= fun y => eqD x y) >>= asB) r fun t => if t = true then (lift ((((getS 0 r) >>= fun x => (.ok (.int 0)) >>= fun y => ixD x y) >>= fun d => (.ok []) >>= fun ds => .ok (d :: ds)) >>= d_q_elements) r fun d => .rt d) else (.nx r)).seq fun r => ((lift ((.ok []) >>= lstD) r fun d => .nx (r.set 1 (.ow .flat d))).seq fun r => ((lift (((((getS 0 r) >>= fun x => (.ok (.int 0)) >>= fun y => ixD x y) >>= fun d => (.ok []) >>= fun ds => .ok (d :: ds)) >>= d_q_all_r0) >>= itemsD) r fun ds => forD (q_all_r1_l2) ds r).seq fun r => (frzAt 1 (fun r => lift (getS 1 r) r fun d => .rt d) r)))
def d_q_all_r1 : List D → Res D := runD 1 N_q_all.length e_q_all_r1
def q_all_c1 (r : Env) (ds : List D) : Res (List D) := lcD (nameG 3)
  (fun r => .ok true)
  (fun r => ((getS 2 r) >>= fun d => ((getS 3 r) >>= fun d => (.ok []) >>= fun ds => .ok (d :: ds)) >>= fun ds => .ok (d :: ds)) >>= tupD)
  (wipeR r [3]) ds
def q_all_l2 : D → Env → Oc := fun d r => (into ((nameG 2) d r)).seq fun r => (extG 1 (fun r => (((((getS 0 r) >>= fun x => (.ok (.int 1)) >>= fun y => ixD x y) >>= fun d => (.ok []) >>= fun ds => .ok (d :: ds)) >>= d_q_elements) >>= itemsD) >>= fun ds => q_all_c1 r ds >>= lstD) r)
def e_q_all : Env → Oc := fun r => (lift (((((getS 0 r) >>= fun d => (.ok []) >>= fun ds => .ok (d :: ds)) >>= one lenD) >>= fun x => (.ok (.int 1)) >>= fun y => eqD x y) >>= asB) r fun t => if t = true then (lift ((((getS 0 r) >>= fun x => (.ok (.int 0)) >>= fun y => ixD x y) >>= fun d => (.ok []) >>= fun ds => .ok (d :: ds)) >>= d_q_elements) r fun d => .rt d) else (.nx r)).seq fun r => ((lift ((.ok []) >>= lstD) r fun d => .nx (r.set 1 (.ow .flat d))).seq fun r => ((lift (((((getS 0 r) >>= fun x => (.ok (.int 0)) >>= fun y => ixD x y) >>= fun d => (.ok []) >>= fun ds => .ok (d :: ds)) >>= d_q_all_r1) >>= itemsD) r fun ds => forD (q_all_l2) ds r).seq fun r => (frzAt 1 (fun r => lift (getS 1 r) r fun d => .rt d) r)))
def d_q_all : List D → Res D := runD 1 N_q_all.length e_q_all
def q_plus_c1 (r : Env) (ds : List D) : Res (List D) := lcD (tupG 3 (consG (nameG 3) (consG (nameG 4) (consG (nameG 5) (nilG)))))
  (fun r => .ok true)
  (fun r => ((getS 3 r) >>= fun x => (getS 4 r) >>= fun y => addD x y) >>= fun x => (getS 5 r) >>= fun y => modD x y)
  (wipeR r [3, 4, 5]) ds
def e_q_plus : Env → Oc := fun r => lift ((((((getS 1 r) >>= fun d => ((getS 2 r) >>= fun d => ((getS 0 r) >>= fun d => (.ok []) >>= fun ds => .ok (d :: ds)) >>= fun ds => .ok (d :: ds)) >>= fun ds => .ok (d :: ds)) >>= zip3D) >>= fun ds => q_plus_c1 r ds >>= lstD) >>= fun d => (.ok []) >>= fun ds => .ok (d :: ds)) >>= one tupleD) r fun d => .rt d
def d_q_plus : List D → Res D := runD 3 N_q_plus.length e_q_plus
def e_q_put_r0 : Env → Oc := fun r => (lift (((((getS 0 r) >>= fun d => (.ok []) >>= fun ds => .ok (d :: ds)) >>= one lenD) >>= fun x => (.ok (.int 1)) >>= fun y => eqD x y) >>= asB) r fun t => if t = true then (lift ((((getS 0 r) >>= fun x => (.ok (.int 0)) >>= fun y => ixD x y) >>= fun d => ((getS 1 r) >>= fun d => ((getS 2 r) >>= fun d => (.ok []) >>= fun ds => .ok (d :: ds)) >>= fun ds => .ok (d :: ds)) >>= fun ds => .ok (d :: ds)) >>= d_q_plus) r fun d => .rt d) else (.nx r)).seq fun r => ((lift (getS 0 r) r fun d => into ((tupG 3 (consG (nameG 3) (consG (nameG 4) (consG (nameG 5) (nilG))))) d r)).seq fun r => (lift (((.bad) >>= fun d => ((((getS 4 r) >>= fun d => (((getS 1 r) >>= fun x => (.ok (.int 1)) >>= fun y => ixD x y) >>= fun d => (((getS 2 r) >>= fun x => (.ok (.int 1)) >>= fun y => ixD x y) >>= fun d => (.ok []) >>= fun ds => .ok (d :: ds)) >>= fun ds => .ok (d :: ds)) >>= fun ds => .ok (d :: ds)) >>= d_q_plus) >>= fun d => (.ok []) >>= fun ds => .ok (d :: ds)) >>= fun ds => .ok (d :: ds)) >>= tupD) r fun d => .rt d))
def d_q_put_r0 : List D → Res D := runD 3 N_q_put.length e_q_put_r0
def e_q_put_r1 : Env → Oc := fun r => (lift (((((getS 0 r) >>= fun d => (.ok []) >>= fun ds => .ok (d :: ds)) >>= one lenD) >>= fun x => (.ok (.int 1)) >>= fun y => eqD x y) >>= asB) r fun t => if t = true then (lift ((((getS 0 r) >>= fun x => (.ok (.int 0)) >>= fun y => ixD x y) >>= fun d => ((getS 1 r) >>= fun d => ((getS 2 r) >>= fun d => (.ok []) >>= fun ds => .ok (d :: ds)) >>= fun ds => .ok (d :: ds)) >>= fun ds => .ok (d :: ds)) >>= d_q_plus) r fun d => .rt d) else (.nx r)).seq fun r => ((lift (getS 0 r) r fun d => into ((tupG 3 (consG (nameG 3) (consG (nameG 4) (consG (nameG 5) (nilG))))) d r)).seq fun r => (lift (((((getS 3 r) >>= fun d => ((((getS 3 r) >>= fun d => (((getS 1 r) >>= fun x => (.ok (.int 0)) >>= fun y => ixD x y) >>= fun d => (((getS 2 r) >>= fun x => (.ok (.int 0)) >>= fun y => ixD x y) >>= fun d => (.ok []) >>= fun ds => .ok (d :: ds)) >>= fun ds => .ok (d :: ds)) >>= fun ds => .ok (d :: ds)) >>= d_q_put_r0) >>= fun d => (((getS 5 r) >>= fun x => ((((getS 1 r) >>= fun x => (.ok (.int 1)) >>= fun y => ixD x y) >>= fun d => (((getS 2 r) >>= fun x => (.ok (.int 1)) >>= fun y => ixD x y) >>= fun d => (.ok []) >>= fun ds => .ok (d :: ds)) >>= fun ds => .ok (d :: ds)) >>= tupD) >>= fun y => ixD x y) >>= fun d => (.ok []) >>= fun ds => .ok (d :: ds)) >>= fun ds => .ok (d :: ds)) >>= fun ds => .ok (d :: ds)) >>= d_q_put_r0) >>= fun d => ((((getS 4 r) >>= fun d => (((getS 1 r) >>= fun x => (.ok (.int 1)) >>= fun y => ixD x y) >>= fun d => (((getS 2 r) >>= fun x => (.ok (.int 1)) >>= fun y => ixD x y) >>= fun d => (.ok []) >>= fun ds => .ok (d :: ds)) >>= fun ds => .ok (d :: ds)) >>= fun ds => .ok (d :: ds)) >>= d_q_plus) >>= fun d => (.ok []) >>= fun ds => .ok (d :: ds)) >>= fun ds => .ok (d :: ds)) >>= tupD) r fun d => .rt d))
def d_q_put_r1 : List D → Res D := runD 3 N_q_put.length e_q_put_r1
def e_q_put : Env → Oc := fun r => (lift (((((getS 0 r) >>= fun d => (.ok []) >>= fun ds => .ok (d :: ds)) >>= one lenD) >>= fun x => (.ok (.int 1)) >>= fun y => eqD x y) >>= asB) r fun t => if t = true then (lift ((((getS 0 r) >>= fun x => (.ok (.int 0)) >>= fun y => ixD x y) >>= fun d => ((getS 1 r) >>= fun d => ((getS 2 r) >>= fun d => (.ok []) >>= fun ds => .ok (d :: ds)) >>= fun ds => .ok (d :: ds)) >>= fun ds => .ok (d :: ds)) >>= d_q_plus) r fun d => .rt d) else (.nx r)).seq fun r => ((lift (getS 0 r) r fun d => into ((tupG 3 (consG (nameG 3) (consG (nameG 4) (consG (nameG 5) (nilG))))) d r)).seq fun r => (lift (((((getS 3 r) >>= fun d => ((((getS 3 r) >>= fun d => (((getS 1 r) >>= fun x => (.ok (.int 0)) >>= fun y => ixD x y) >>= fun d => (((getS 2 r) >>= fun x => (.ok (.int 0)) >>= fun y => ixD x y) >>= fun d => (.ok []) >>= fun ds => .ok (d :: ds)) >>= fun ds => .ok (d :: ds)) >>= fun ds => .ok (d :: ds)) >>= d_q_put_r1) >>= fun d => (((getS 5 r) >>= fun x => ((((getS 1 r) >>= fun x => (.ok (.int 1)) >>= fun y => ixD x y) >>= fun d => (((getS 2 r) >>= fun x => (.ok (.int 1)) >>= fun y => ixD x y) >>= fun d => (.ok []) >>= fun ds => .ok (d :: ds)) >>= fun ds => .ok (d :: ds)) >>= tupD) >>= fun y => ixD x y) >>= fun d => (.ok []) >>= fun ds => .ok (d :: ds)) >>= fun ds => .ok (d :: ds)) >>= fun ds => .ok (d :: ds)) >>= d_q_put_r1) >>= fun d => ((((getS 4 r) >>= fun d => (((getS 1 r) >>= fun x => (.ok (.int 1)) >>= fun y => ixD x y) >>= fun d => (((getS 2 r) >>= fun x => (.ok (.int 1)) >>= fun y => ixD x y) >>= fun d => (.ok []) >>= fun ds => .ok (d :: ds)) >>= fun ds => .ok (d :: ds)) >>= fun ds => .ok (d :: ds)) >>= d_q_plus) >>= fun d => (.ok []) >>= fun ds => .ok (d :: ds)) >>= fun ds => .ok (d :: ds)) >>= tupD) r fun d => .rt d))
def d_q_put : List D → Res D := runD 3 N_q_put.length e_q_put
def q_zero_c1 (r : Env) (ds : List D) : Res (List D) := lcD (nameG 1)
  (fun r => ((((getS 0 r) >>= fun d => ((getS 1 r) >>= fun d => ((getS 1 r) >>= fun d => (.ok []) >>= fun ds => .ok (d :: ds)) >>= fun ds => .ok (d :: ds)) >>= fun ds => .ok (d :: ds)) >>= d_q_put) >>= fun x => (getS 1 r) >>= fun y => eqD x y) >>= asB)
  (fun r => getS 1 r)
  (wipeR r [1]) ds
def e_q_zero : Env → Oc := fun r => lift ((((((getS 0 r) >>= fun d => (.ok []) >>= fun ds => .ok (d :: ds)) >>= d_q_all) >>= itemsD) >>= fun ds => q_zero_c1 r ds >>= lstD) >>= fun x => (.ok (.int 0)) >>= fun y => ixD x y) r fun d => .rt d
def d_q_zero : List D → Res D := runD 1 N_q_zero.length e_q_zero
def q_backs_w1c : Env → Res Bool := fun r => (((((getS 0 r) >>= fun d => ((getS 4 r) >>= fun d => ((getS 3 r) >>= fun d => (.ok []) >>= fun ds => .ok (d :: ds)) >>= fun ds => .ok (d :: ds)) >>= fun ds => .ok (d :: ds)) >>= d_q_put) >>= fun x => (getS 1 r) >>= fun y => neD x y) >>= asB) >>= fun t => if t = true then (((getS 3 r) >>= fun x => (getS 1 r) >>= fun y => neD x y) >>= asB) else .ok false
def q_backs_w1 : Env → Oc := fun r => (lift (((getS 0 r) >>= fun d => ((getS 4 r) >>= fun d => ((getS 3 r) >>= fun d => (.ok []) >>= fun ds => .ok (d :: ds)) >>= fun ds => .ok (d :: ds)) >>= fun ds => .ok (d :: ds)) >>= d_q_put) r fun d => .nx (r.set 4 (.sh d)))
def q_backs_l2 : D → Env → Oc := fun d r => (into ((nameG 3) d r)).seq fun r => ((lift (getS 3 r) r fun d => .nx (r.set 4 (.sh d))).seq fun r => ((loopD q_backs_w1c q_backs_w1 r).seq fun r => (setG 2 (fun r => getS 4 r) (fun r => getS 3 r) r)))
def e_q_backs : Env → Oc := fun r => (lift (((getS 0 r) >>= fun d => (.ok []) >>= fun ds => .ok (d :: ds)) >>= d_q_zero) r fun d => .nx (r.set 1 (.sh d))).seq fun r => ((lift (.ok (.dic [] [])) r fun d => .nx (r.set 2 (.ow .flat d))).seq fun r => ((lift ((((getS 0 r) >>= fun d => (.ok []) >>= fun ds => .ok (d :: ds)) >>= d_q_all) >>= itemsD) r fun ds => forD (q_backs_l2) ds r).seq fun r => (frzAt 2 (fun r => lift (getS 2 r) r fun d => .rt d) r)))
def d_q_backs : List D → Res D := runD 1 N_q_backs.length e_q_backs
def q_laid_c1 (r : Env) (ds : List D) : Res (List D) := lcD (nameG 13)
  (fun r => .ok true)
  (fun r => (getS 4 r) >>= fun x => (((((getS 2 r) >>= fun d => (((getS 3 r) >>= fun x => ((.ok (.int 3)) >>= fun x => (getS 13 r) >>= fun y => mulD x y) >>= fun y => addD x y) >>= fun d => (.ok []) >>= fun ds => .ok (d :: ds)) >>= fun ds => .ok (d :: ds)) >>= d_q_cell) >>= fun x => (.ok (.int 7)) >>= fun y => divD x y) >>= fun x => (((getS 4 r) >>= fun d => (.ok []) >>= fun ds => .ok (d :: ds)) >>= one lenD) >>= fun y => modD x y) >>= fun y => ixD x y)
  (wipeR r [13]) ds
def q_laid_l2 : D → Env → Oc := fun d r => (into ((tupG 2 (consG (nameG 8) (consG (nameG 9) (nilG)))) d r)).seq fun r => ((setG 7 (fun r => ((getS 0 r) >>= fun d => (.ok []) >>= fun ds => .ok (d :: ds)) >>= d_q_zero) (fun r => getS 9 r) r).seq fun r => (lift ((((((getS 2 r) >>= fun d => (((getS 3 r) >>= fun x => (.ok (.int 1)) >>= fun y => addD x y) >>= fun d => (.ok []) >>= fun ds => .ok (d :: ds)) >>= fun ds => .ok (d :: ds)) >>= d_q_cell) >>= fun x => (.ok (.int 3)) >>= fun y => modD x y) >>= fun x => (.ok (.int 0)) >>= fun y => gtD x y) >>= asB) r fun t => if t = true then (setG 7 (fun r => (getS 4 r) >>= fun x => (((((getS 2 r) >>= fun d => ((((getS 3 r) >>= fun x => (.ok (.int 20)) >>= fun y => addD x y) >>= fun x => ((.ok (.int 3)) >>= fun x => (getS 8 r) >>= fun y => mulD x y) >>= fun y => addD x y) >>= fun d => (.ok []) >>= fun ds => .ok (d :: ds)) >>= fun ds => .ok (d :: ds)) >>= d_q_cell) >>= fun x => (.ok (.int 7)) >>= fun y => divD x y) >>= fun x => (((getS 4 r) >>= fun d => (.ok []) >>= fun ds => .ok (d :: ds)) >>= one lenD) >>= fun y => modD x y) >>= fun y => ixD x y) (fun r => getS 9 r) r) else (.nx r)))
def q_laid_l3 : D → Env → Oc := fun d r => (into ((tupG 2 (consG (nameG 13) (consG (nameG 14) (nilG)))) d r)).seq fun r => (lift (((((getS 9 r) >>= fun x => (getS 13 r) >>= fun y => ixD x y) >>= fun x => ((getS 11 r) >>= fun x => (getS 13 r) >>= fun y => ixD x y) >>= fun y => addD x y) >>= fun x => (getS 14 r) >>= fun y => geD x y) >>= asB) r fun t => if t = true then (lift (((getS 0 r) >>= fun d => ((getS 12 r) >>= fun d => (((getS 6 r) >>= fun x => (getS 13 r) >>= fun y => ixD x y) >>= fun d => (.ok []) >>= fun ds => .ok (d :: ds)) >>= fun ds => .ok (d :: ds)) >>= fun ds => .ok (d :: ds)) >>= d_q_put) r fun d => .nx (r.set 12 (.sh d))) else (.nx r))
def q_laid_l4 : D → Env → Oc := fun d r => (into ((nameG 11) d r)).seq fun r => ((lift (((getS 0 r) >>= fun d => (((getR 7 r) >>= fun x => (getS 9 r) >>= fun y => ixD x y) >>= fun d => (((getR 7 r) >>= fun x => (getS 11 r) >>= fun y => ixD x y) >>= fun d => (.ok []) >>= fun ds => .ok (d :: ds)) >>= fun ds => .ok (d :: ds)) >>= fun ds => .ok (d :: ds)) >>= d_q_put) r fun d => .nx (r.set 12 (.sh d))).seq fun r => ((lift (((getS 0 r) >>= fun d => ((getS 12 r) >>= fun d => (((getS 5 r) >>= fun x => ((getR 7 r) >>= fun x => (((getS 1 r) >>= fun d => ((getS 9 r) >>= fun d => ((getS 11 r) >>= fun d => (.ok []) >>= fun ds => .ok (d :: ds)) >>= fun ds => .ok (d :: ds)) >>= fun ds => .ok (d :: ds)) >>= d_q_plus) >>= fun y => ixD x y) >>= fun y => ixD x y) >>= fun d => (.ok []) >>= fun ds => .ok (d :: ds)) >>= fun ds => .ok (d :: ds)) >>= fun ds => .ok (d :: ds)) >>= d_q_put) r fun d => .nx (r.set 12 (.sh d))).seq fun r => ((lift (((getS 1 r) >>= fun d => (.ok []) >>= fun ds => .ok (d :: ds)) >>= enumS) r fun ds => forD (q_laid_l3) ds r).seq fun r => (setG 10 (fun r => getS 12 r) (fun r => ((getS 9 r) >>= fun d => ((getS 11 r) >>= fun d => (.ok []) >>= fun ds => .ok (d :: ds)) >>= fun ds => .ok (d :: ds)) >>= tupD) r))))
def q_laid_l5 : D → Env → Oc := fun d r => (into ((nameG 9) d r)).seq fun r => (lift ((((getS 1 r) >>= fun d => (.ok []) >>= fun ds => .ok (d :: ds)) >>= d_q_elements) >>= itemsD) r fun ds => forD (q_laid_l4) ds r)
def e_q_laid : Env → Oc := fun r => (lift (((getS 0 r) >>= fun d => (.ok []) >>= fun ds => .ok (d :: ds)) >>= d_q_all) r fun d => .nx (r.set 4 (.sh d))).seq fun r => ((lift (((getS 0 r) >>= fun d => (.ok []) >>= fun ds => .ok (d :: ds)) >>= d_q_backs) r fun d => .nx (r.set 5 (.sh d))).seq fun r => ((shareAt 6 (lift ((((((getS 1 r) >>= fun d => (.ok []) >>= fun ds => .ok (d :: ds)) >>= one lenD) >>= fun d => (.ok []) >>= fun ds => .ok (d :: ds)) >>= rng1) >>= fun ds => q_laid_c1 r ds >>= lstD) r fun d => .nx (r.set 6 (.ow .flat d)))).seq fun r => ((lift (.ok (.dic [] [])) r fun d => .nx (r.set 7 (.ow .flat d))).seq fun r => ((lift (((((getS 1 r) >>= fun d => (.ok []) >>= fun ds => .ok (d :: ds)) >>= d_q_elements) >>= fun d => (.ok []) >>= fun ds => .ok (d :: ds)) >>= enumS) r fun ds => forD (q_laid_l2) ds r).seq fun r => ((lift (.ok (.dic [] [])) r fun d => .nx (r.set 10 (.ow .flat d))).seq fun r => ((lift ((((getS 1 r) >>= fun d => (.ok []) >>= fun ds => .ok (d :: ds)) >>= d_q_elements) >>= itemsD) r fun ds => forD (q_laid_l5) ds r).seq fun r => (frzAt 10 (fun r => lift (((getS 0 r) >>= fun d => ((getS 1 r) >>= fun d => ((getS 10 r) >>= fun d => (.ok []) >>= fun ds => .ok (d :: ds)) >>= fun ds => .ok (d :: ds)) >>= fun ds => .ok (d :: ds)) >>= tupD) r fun d => .rt d) r)))))))
def d_q_laid : List D → Res D := runD 4 N_q_laid.length e_q_laid
def e_is_whole : Env → Oc := fun r => lift (((((getS 0 r) >>= fun d => ((.ok (.ty "int")) >>= fun d => (.ok []) >>= fun ds => .ok (d :: ds)) >>= fun ds => .ok (d :: ds)) >>= two (isD isC isU)) >>= asB) >>= fun t => if t = true then (((((getS 0 r) >>= fun d => ((.ok (.ty "bool")) >>= fun d => (.ok []) >>= fun ds => .ok (d :: ds)) >>= fun ds => .ok (d :: ds)) >>= two (isD isC isU)) >>= asB) >>= fun t => .ok (.bl (!t))) else .ok (.bl false)) r fun d => .rt d
def d_is_whole : List D → Res D := runD 1 N_is_whole.length e_is_whole
def are_rounds_l1 : D → Env → Oc := fun d r => (into ((nameG 2) d r)).seq fun r => ((lift ((((((getS 2 r) >>= fun d => (.ok []) >>= fun ds => .ok (d :: ds)) >>= d_is_whole) >>= asB) >>= fun t => .ok (!t)) >>= fun t => if t = true then .ok true else ((((getS 2 r) >>= fun x => (.ok (.int 2)) >>= fun y => ltD x y) >>= asB) >>= fun t => if t = true then .ok true else (((getS 2 r) >>= fun x => (.ok (.int 144)) >>= fun y => gtD x y) >>= asB))) r fun t => if t = true then (lift (.ok (.bl false)) r fun d => .rt d) else (.nx r)).seq fun r => (lift ((getS 1 r) >>= fun x => (getS 2 r) >>= fun y => mulD x y) r fun d => .nx (r.set 1 (.sh d))))
def e_are_rounds : Env → Oc := fun r => (lift ((((((getS 0 r) >>= fun d => ((((.ok (.ty "list")) >>= fun d => ((.ok (.ty "tuple")) >>= fun d => (.ok []) >>= fun ds => .ok (d :: ds)) >>= fun ds => .ok (d :: ds)) >>= tupD) >>= fun d => (.ok []) >>= fun ds => .ok (d :: ds)) >>= fun ds => .ok (d :: ds)) >>= two (isD isC isU)) >>= asB) >>= fun t => .ok (!t)) >>= fun t => if t = true then .ok true else (((((getS 0 r) >>= fun d => (.ok []) >>= fun ds => .ok (d :: ds)) >>= one lenD) >>= fun x => (.ok (.int 7)) >>= fun y => gtD x y) >>= asB)) r fun t => if t = true then (lift (.ok (.bl false)) r fun d => .rt d) else (.nx r)).seq fun r => ((lift (.ok (.int 1)) r fun d => .nx (r.set 1 (.sh d))).seq fun r => ((lift ((getS 0 r) >>= itemsD) r fun ds => forD (are_rounds_l1) ds r).seq fun r => (lift ((getS 1 r) >>= fun x => (.ok (.int 144)) >>= fun y => leD x y) r fun d => .rt d)))
def d_are_rounds : List D → Res D := runD 1 N_are_rounds.length e_are_rounds
def e_Rounds_init : Env → Oc := fun r => (lift (((((getS 1 r) >>= fun d => (.ok []) >>= fun ds => .ok (d :: ds)) >>= d_are_rounds) >>= asB) >>= fun t => .ok (!t)) r fun t => if t = true then (.er (.exc 11 []) r) else (.nx r)).seq fun r => (lift (((getS 1 r) >>= fun d => (.ok []) >>= fun ds => .ok (d :: ds)) >>= one tupleD) r fun d => setF 0 0 "rounds" .sh d r)
def d_Rounds_init : List D → Res D := runI 1 N_Rounds_init.length 0 e_Rounds_init
def Rounds_members_c1 (r : Env) (ds : List D) : Res (List D) := lcD (nameG 5)
  (fun r => .ok true)
  (fun r => (getS 4 r) >>= fun x => (((getS 5 r) >>= fun d => (.ok []) >>= fun ds => .ok (d :: ds)) >>= tupD) >>= fun y => addD x y)
  (wipeR r [5]) ds
def Rounds_members_l2 : D → Env → Oc := fun d r => (into ((nameG 4) d r)).seq fun r => (extG 3 (fun r => (((getS 2 r) >>= fun d => (.ok []) >>= fun ds => .ok (d :: ds)) >>= rng1) >>= fun ds => Rounds_members_c1 r ds >>= lstD) r)
def Rounds_members_l3 : D → Env → Oc := fun d r => (into ((nameG 2) d r)).seq fun r => ((lift ((.ok []) >>= lstD) r fun d => .nx (r.set 3 (.ow .flat d))).seq fun r => ((lift ((getS 1 r) >>= itemsD) r fun ds => forD (Rounds_members_l2) ds r).seq fun r => (frzAt 3 (fun r => lift (getS 3 r) r fun d => .nx (r.set 1 (.sh d))) r)))
def e_Rounds_members : Env → Oc := fun r => (lift ((((.ok []) >>= tupD) >>= fun d => (.ok []) >>= fun ds => .ok (d :: ds)) >>= lstD) r fun d => .nx (r.set 1 (.sh d))).seq fun r => ((lift (((getS 0 r) >>= fldD (plOf [0] "rounds")) >>= itemsD) r fun ds => forD (Rounds_members_l3) ds r).seq fun r => (lift (getS 1 r) r fun d => .rt d))
def d_Rounds_members : List D → Res D := runD 1 N_Rounds_members.length e_Rounds_members
def mt_members (c : Nat) : Option (List D → Res D) := if c = 0 then some d_Rounds_members else none
def Tower_members_c1 (r : Env) (ds : List D) : Res (List D) := lcD (nameG 3)
  (fun r => .ok true)
  (fun r => ((getS 2 r) >>= fun d => ((getS 3 r) >>= fun d => (.ok []) >>= fun ds => .ok (d :: ds)) >>= fun ds => .ok (d :: ds)) >>= tupD)
  (wipeR r [3]) ds
def Tower_members_l2 : D → Env → Oc := fun d r => (into ((nameG 2) d r)).seq fun r => (extG 1 (fun r => (((((getS 0 r) >>= fldD (plOf [1] "table")) >>= fldD (plOf [2] "upper")) >>= fun d => mthD mt_members d >>= fun g => g []) >>= itemsD) >>= fun ds => Tower_members_c1 r ds >>= lstD) r)
def e_Tower_members : Env → Oc := fun r => (lift ((.ok []) >>= lstD) r fun d => .nx (r.set 1 (.ow .flat d))).seq fun r => ((lift (((((getS 0 r) >>= fldD (plOf [1] "table")) >>= fldD (plOf [2] "lower")) >>= fun d => mthD mt_members d >>= fun g => g []) >>= itemsD) r fun ds => forD (Tower_members_l2) ds r).seq fun r => (frzAt 1 (fun r => lift (getS 1 r) r fun d => .rt d) r))
def d_Tower_members : List D → Res D := runD 1 N_Tower_members.length e_Tower_members
def mt_members_T (c : Nat) : Option (List D → Res D) := if c = 0 then some d_Rounds_members else if c = 1 then some d_Tower_members else none
def Rounds_has_l1 : D → Env → Oc := fun d r => (into ((tupG 2 (consG (nameG 2) (consG (nameG 3) (nilG)))) d r)).seq fun r => (lift ((((((getS 2 r) >>= fun d => (.ok []) >>= fun ds => .ok (d :: ds)) >>= d_is_whole) >>= asB) >>= fun t => .ok (!t)) >>= fun t => if t = true then .ok true else ((((getS 2 r) >>= fun x => (.ok (.int 0)) >>= fun y => ltD x y) >>= asB) >>= fun t => if t = true then .ok true else (((getS 2 r) >>= fun x => (getS 3 r) >>= fun y => geD x y) >>= asB))) r fun t => if t = true then (lift (.ok (.bl false)) r fun d => .rt d) else (.nx r))
def e_Rounds_has : Env → Oc := fun r => (lift ((((((getS 1 r) >>= fun d => ((.ok (.ty "tuple")) >>= fun d => (.ok []) >>= fun ds => .ok (d :: ds)) >>= fun ds => .ok (d :: ds)) >>= two (isD isC isU)) >>= asB) >>= fun t => .ok (!t)) >>= fun t => if t = true then .ok true else (((((getS 1 r) >>= fun d => (.ok []) >>= fun ds => .ok (d :: ds)) >>= one lenD) >>= fun x => ((((getS 0 r) >>= fldD (plOf [0] "rounds")) >>= fun d => (.ok []) >>= fun ds => .ok (d :: ds)) >>= one lenD) >>= fun y => neD x y) >>= asB)) r fun t => if t = true then (lift (.ok (.bl false)) r fun d => .rt d) else (.nx r)).seq fun r => ((lift (((getS 1 r) >>= fun d => (((getS 0 r) >>= fldD (plOf [0] "rounds")) >>= fun d => (.ok []) >>= fun ds => .ok (d :: ds)) >>= fun ds => .ok (d :: ds)) >>= zip2D) r fun ds => forD (Rounds_has_l1) ds r).seq fun r => (lift (.ok (.bl true)) r fun d => .rt d))
def d_Rounds_has : List D → Res D := runD 2 N_Rounds_has.length e_Rounds_has
def mt_has (c : Nat) : Option (List D → Res D) := if c = 0 then some d_Rounds_has else none
def e_Group_look_at : Env → Oc := fun r => lift ((((getS 0 r) >>= fun d => mthD mt_has d >>= fun g => ((getS 1 r) >>= fun d => (.ok []) >>= fun ds => .ok (d :: ds)) >>= g) >>= asB) >>= fun t => .ok (!t)) r fun t => if t = true then (.er (.exc 12 []) r) else (.nx r)
def d_Group_look_at : List D → Res D := runD 2 N_Group_look_at.length e_Group_look_at
def mt_look_at (c : Nat) : Option (List D → Res D) := if c = 0 then some d_Group_look_at else none
def Rounds_put_c1 (r : Env) (ds : List D) : Res (List D) := lcD (tupG 3 (consG (nameG 3) (consG (nameG 4) (consG (nameG 5) (nilG)))))
  (fun r => .ok true)
  (fun r => ((getS 3 r) >>= fun x => (getS 4 r) >>= fun y => addD x y) >>= fun x => (getS 5 r) >>= fun y => modD x y)
  (wipeR r [3, 4, 5]) ds
def e_Rounds_put : Env → Oc := fun r => lift ((((((getS 1 r) >>= fun d => ((getS 2 r) >>= fun d => (((getS 0 r) >>= fldD (plOf [0] "rounds")) >>= fun d => (.ok []) >>= fun ds => .ok (d :: ds)) >>= fun ds => .ok (d :: ds)) >>= fun ds => .ok (d :: ds)) >>= zip3D) >>= fun ds => Rounds_put_c1 r ds >>= lstD) >>= fun d => (.ok []) >>= fun ds => .ok (d :: ds)) >>= one tupleD) r fun d => .rt d
def d_Rounds_put : List D → Res D := runD 3 N_Rounds_put.length e_Rounds_put
def mt_put (c : Nat) : Option (List D → Res D) := if c = 0 then some d_Rounds_put else none
def e_Group_added : Env → Oc := fun r => (lift ((getS 0 r) >>= fun d => mthD mt_look_at d >>= fun g => ((getS 1 r) >>= fun d => (.ok []) >>= fun ds => .ok (d :: ds)) >>= g) r fun _ => .nx r).seq fun r => ((lift ((getS 0 r) >>= fun d => mthD mt_look_at d >>= fun g => ((getS 2 r) >>= fun d => (.ok []) >>= fun ds => .ok (d :: ds)) >>= g) r fun _ => .nx r).seq fun r => (lift ((getS 0 r) >>= fun d => mthD mt_put d >>= fun g => ((getS 1 r) >>= fun d => ((getS 2 r) >>= fun d => (.ok []) >>= fun ds => .ok (d :: ds)) >>= fun ds => .ok (d :: ds)) >>= g) r fun d => .rt d))
def d_Group_added : List D → Res D := runD 3 N_Group_added.length e_Group_added
def e_Tower_has : Env → Oc := fun r => (lift ((((((getS 1 r) >>= fun d => ((.ok (.ty "tuple")) >>= fun d => (.ok []) >>= fun ds => .ok (d :: ds)) >>= fun ds => .ok (d :: ds)) >>= two (isD isC isU)) >>= asB) >>= fun t => .ok (!t)) >>= fun t => if t = true then .ok true else (((((getS 1 r) >>= fun d => (.ok []) >>= fun ds => .ok (d :: ds)) >>= one lenD) >>= fun x => (.ok (.int 2)) >>= fun y => neD x y) >>= asB)) r fun t => if t = true then (lift (.ok (.bl false)) r fun d => .rt d) else (.nx r)).seq fun r => (lift ((((((getS 0 r) >>= fldD (plOf [1] "table")) >>= fldD (plOf [2] "lower")) >>= fun d => mthD mt_has d >>= fun g => (((getS 1 r) >>= fun x => (.ok (.int 0)) >>= fun y => ixD x y) >>= fun d => (.ok []) >>= fun ds => .ok (d :: ds)) >>= g) >>= asB) >>= fun t => if t = true then ((((getS 0 r) >>= fldD (plOf [1] "table")) >>= fldD (plOf [2] "upper")) >>= fun d => mthD mt_has d >>= fun g => (((getS 1 r) >>= fun x => (.ok (.int 1)) >>= fun y => ixD x y) >>= fun d => (.ok []) >>= fun ds => .ok (d :: ds)) >>= g) else .ok (.bl false)) r fun d => .rt d)
def d_Tower_has : List D → Res D := runD 2 N_Tower_has.length e_Tower_has
def mt_has_T (c : Nat) : Option (List D → Res D) := if c = 0 then some d_Rounds_has else if c = 1 then some d_Tower_has else none
def e_Group_look_at_1 : Env → Oc := fun r => lift ((((getS 0 r) >>= fun d => mthD mt_has_T d >>= fun g => ((getS 1 r) >>= fun d => (.ok []) >>= fun ds => .ok (d :: ds)) >>= g) >>= asB) >>= fun t => .ok (!t)) r fun t => if t = true then (.er (.exc 12 []) r) else (.nx r)
def d_Group_look_at_1 : List D → Res D := runD 2 N_Group_look_at.length e_Group_look_at_1
def mt_look_at_T (c : Nat) : Option (List D → Res D) := if c = 0 then some d_Group_look_at else if c = 1 then some d_Group_look_at_1 else none
def e_Table_carry : Env → Oc := fun r => (lift ((((((getS 0 r) >>= fldD (plOf [2] "upper")) >>= fun d => mthD mt_has d >>= fun g => ((getS 1 r) >>= fun d => (.ok []) >>= fun ds => .ok (d :: ds)) >>= g) >>= asB) >>= fun t => .ok (!t)) >>= fun t => if t = true then .ok true else (((((getS 0 r) >>= fldD (plOf [2] "upper")) >>= fun d => mthD mt_has d >>= fun g => ((getS 2 r) >>= fun d => (.ok []) >>= fun ds => .ok (d :: ds)) >>= g) >>= asB) >>= fun t => .ok (!t))) r fun t => if t = true then (.er (.exc 12 []) r) else (.nx r)).seq fun r => (lift (((getS 0 r) >>= fldD (plOf [2] "kept")) >>= fun x => (((getS 1 r) >>= fun d => ((getS 2 r) >>= fun d => (.ok []) >>= fun ds => .ok (d :: ds)) >>= fun ds => .ok (d :: ds)) >>= tupD) >>= fun y => ixD x y) r fun d => .rt d)
def d_Table_carry : List D → Res D := runD 3 N_Table_carry.length e_Table_carry
def mt_carry (c : Nat) : Option (List D → Res D) := if c = 2 then some d_Table_carry else none
def e_Tower_put : Env → Oc := fun r => (lift (((getS 0 r) >>= fldD (plOf [1] "table")) >>= fldD (plOf [2] "lower")) r fun d => .nx (r.set 3 (.sh d))).seq fun r => ((lift (((getS 0 r) >>= fldD (plOf [1] "table")) >>= fun d => mthD mt_carry d >>= fun g => (((getS 1 r) >>= fun x => (.ok (.int 1)) >>= fun y => ixD x y) >>= fun d => (((getS 2 r) >>= fun x => (.ok (.int 1)) >>= fun y => ixD x y) >>= fun d => (.ok []) >>= fun ds => .ok (d :: ds)) >>= fun ds => .ok (d :: ds)) >>= g) r fun d => .nx (r.set 4 (.sh d))).seq fun r => (lift ((((getS 3 r) >>= fun d => mthD mt_put d >>= fun g => (((getS 3 r) >>= fun d => mthD mt_put d >>= fun g => (((getS 1 r) >>= fun x => (.ok (.int 0)) >>= fun y => ixD x y) >>= fun d => (((getS 2 r) >>= fun x => (.ok (.int 0)) >>= fun y => ixD x y) >>= fun d => (.ok []) >>= fun ds => .ok (d :: ds)) >>= fun ds => .ok (d :: ds)) >>= g) >>= fun d => ((getS 4 r) >>= fun d => (.ok []) >>= fun ds => .ok (d :: ds)) >>= fun ds => .ok (d :: ds)) >>= g) >>= fun d => (((((getS 0 r) >>= fldD (plOf [1] "table")) >>= fldD (plOf [2] "upper")) >>= fun d => mthD mt_put d >>= fun g => (((getS 1 r) >>= fun x => (.ok (.int 1)) >>= fun y => ixD x y) >>= fun d => (((getS 2 r) >>= fun x => (.ok (.int 1)) >>= fun y => ixD x y) >>= fun d => (.ok []) >>= fun ds => .ok (d :: ds)) >>= fun ds => .ok (d :: ds)) >>= g) >>= fun d => (.ok []) >>= fun ds => .ok (d :: ds)) >>= fun ds => .ok (d :: ds)) >>= tupD) r fun d => .rt d))
def d_Tower_put : List D → Res D := runD 3 N_Tower_put.length e_Tower_put
def mt_put_T (c : Nat) : Option (List D → Res D) := if c = 0 then some d_Rounds_put else if c = 1 then some d_Tower_put else none
def e_Group_added_1 : Env → Oc := fun r => (lift ((getS 0 r) >>= fun d => mthD mt_look_at_T d >>= fun g => ((getS 1 r) >>= fun d => (.ok []) >>= fun ds => .ok (d :: ds)) >>= g) r fun _ => .nx r).seq fun r => ((lift ((getS 0 r) >>= fun d => mthD mt_look_at_T d >>= fun g => ((getS 2 r) >>= fun d => (.ok []) >>= fun ds => .ok (d :: ds)) >>= g) r fun _ => .nx r).seq fun r => (lift ((getS 0 r) >>= fun d => mthD mt_put_T d >>= fun g => ((getS 1 r) >>= fun d => ((getS 2 r) >>= fun d => (.ok []) >>= fun ds => .ok (d :: ds)) >>= fun ds => .ok (d :: ds)) >>= g) r fun d => .rt d))
def d_Group_added_1 : List D → Res D := runD 3 N_Group_added.length e_Group_added_1
def mt_added_T (c : Nat) : Option (List D → Res D) := if c = 0 then some d_Group_added else if c = 1 then some d_Group_added_1 else none
def break_of_three_l1 : D → Env → Oc := fun d r => (into ((nameG 6) d r)).seq fun r => ((lift ((getS 1 r) >>= fun d => mthD mt_added_T d >>= fun g => (((getS 0 r) >>= fun d => mthD mt_carry d >>= fun g => ((getS 4 r) >>= fun d => ((getS 5 r) >>= fun d => (.ok []) >>= fun ds => .ok (d :: ds)) >>= fun ds => .ok (d :: ds)) >>= g) >>= fun d => (((getS 0 r) >>= fun d => mthD mt_carry d >>= fun g => (((getS 2 r) >>= fun d => mthD mt_added_T d >>= fun g => ((getS 4 r) >>= fun d => ((getS 5 r) >>= fun d => (.ok []) >>= fun ds => .ok (d :: ds)) >>= fun ds => .ok (d :: ds)) >>= g) >>= fun d => ((getS 6 r) >>= fun d => (.ok []) >>= fun ds => .ok (d :: ds)) >>= fun ds => .ok (d :: ds)) >>= g) >>= fun d => (.ok []) >>= fun ds => .ok (d :: ds)) >>= fun ds => .ok (d :: ds)) >>= g) r fun d => .nx (r.set 7 (.sh d))).seq fun r => ((lift ((getS 1 r) >>= fun d => mthD mt_added_T d >>= fun g => (((getS 0 r) >>= fun d => mthD mt_carry d >>= fun g => ((getS 5 r) >>= fun d => ((getS 6 r) >>= fun d => (.ok []) >>= fun ds => .ok (d :: ds)) >>= fun ds => .ok (d :: ds)) >>= g) >>= fun d => (((getS 0 r) >>= fun d => mthD mt_carry d >>= fun g => ((getS 4 r) >>= fun d => (((getS 2 r) >>= fun d => mthD mt_added_T d >>= fun g => ((getS 5 r) >>= fun d => ((getS 6 r) >>= fun d => (.ok []) >>= fun ds => .ok (d :: ds)) >>= fun ds => .ok (d :: ds)) >>= g) >>= fun d => (.ok []) >>= fun ds => .ok (d :: ds)) >>= fun ds => .ok (d :: ds)) >>= g) >>= fun d => (.ok []) >>= fun ds => .ok (d :: ds)) >>= fun ds => .ok (d :: ds)) >>= g) r fun d => .nx (r.set 8 (.sh d))).seq fun r => (lift (((getS 7 r) >>= fun x => (getS 8 r) >>= fun y => neD x y) >>= asB) r fun t => if t = true then (lift (((getS 4 r) >>= fun d => ((getS 5 r) >>= fun d => ((getS 6 r) >>= fun d => (.ok []) >>= fun ds => .ok (d :: ds)) >>= fun ds => .ok (d :: ds)) >>= fun ds => .ok (d :: ds)) >>= tupD) r fun d => .rt d) else (.nx r))))
def break_of_three_l2 : D → Env → Oc := fun d r => (into ((nameG 5) d r)).seq fun r => (lift ((getS 3 r) >>= itemsD) r fun ds => forD (break_of_three_l1) ds r)
def break_of_three_l3 : D → Env → Oc := fun d r => (into ((nameG 4) d r)).seq fun r => (lift ((getS 3 r) >>= itemsD) r fun ds => forD (break_of_three_l2) ds r)
def e_break_of_three : Env → Oc := fun r => (lift ((getS 0 r) >>= fldD (plOf [2] "lower")) r fun d => .nx (r.set 1 (.sh d))).seq fun r => ((lift ((getS 0 r) >>= fldD (plOf [2] "upper")) r fun d => .nx (r.set 2 (.sh d))).seq fun r => ((lift ((getS 2 r) >>= fun d => mthD mt_members_T d >>= fun g => g []) r fun d => .nx (r.set 3 (.sh d))).seq fun r => ((lift ((getS 3 r) >>= itemsD) r fun ds => forD (break_of_three_l3) ds r).seq fun r => (lift (.ok .non) r fun d => .rt d))))
def d_break_of_three : List D → Res D := runD 1 N_break_of_three.length e_break_of_three
def Rounds_nought_c1 (r : Env) (ds : List D) : Res (List D) := lcD (nameG 1)
  (fun r => .ok true)
  (fun r => .ok (.int 0))
  (wipeR r [1]) ds
def e_Rounds_nought : Env → Oc := fun r => lift ((((((getS 0 r) >>= fldD (plOf [0] "rounds")) >>= itemsD) >>= fun ds => Rounds_nought_c1 r ds >>= lstD) >>= fun d => (.ok []) >>= fun ds => .ok (d :: ds)) >>= one tupleD) r fun d => .rt d
def d_Rounds_nought : List D → Res D := runD 1 N_Rounds_nought.length e_Rounds_nought
def mt_nought (c : Nat) : Option (List D → Res D) := if c = 0 then some d_Rounds_nought else none
def e_Tower_init : Env → Oc := fun r => (lift (((getS 1 r) >>= fun d => (.ok []) >>= fun ds => .ok (d :: ds)) >>= d_break_of_three) r fun d => .nx (r.set 2 (.sh d))).seq fun r => ((lift (((getS 2 r) >>= fun x => (.ok .non) >>= fun y => notN x y) >>= asB) r fun t => if t = true then (lift ((getS 2 r) >>= fun d => (.ok []) >>= fun ds => .ok (d :: ds)) r fun ds => raiseD 24 ds r) else (.nx r)).seq fun r => ((lift (getS 1 r) r fun d => setF 0 1 "table" .sh d r).seq fun r => (lift ((getS 1 r) >>= fun d => mthD mt_carry d >>= fun g => ((((getS 1 r) >>= fldD (plOf [2] "upper")) >>= fun d => mthD mt_nought d >>= fun g => g []) >>= fun d => ((((getS 1 r) >>= fldD (plOf [2] "upper")) >>= fun d => mthD mt_nought d >>= fun g => g []) >>= fun d => (.ok []) >>= fun ds => .ok (d :: ds)) >>= fun ds => .ok (d :: ds)) >>= g) r fun d => setF 0 1 "ground" .sh d r)))
def d_Tower_init : List D → Res D := runI 1 N_Tower_init.length 1 e_Tower_init
def e_Group_size : Env → Oc := fun r => lift ((((getS 0 r) >>= fun d => mthD mt_members d >>= fun g => g []) >>= fun d => (.ok []) >>= fun ds => .ok (d :: ds)) >>= one lenD) r fun d => .rt d
def d_Group_size : List D → Res D := runD 1 N_Group_size.length e_Group_size
def e_Group_size_1 : Env → Oc := fun r => lift ((((getS 0 r) >>= fun d => mthD mt_members_T d >>= fun g => g []) >>= fun d => (.ok []) >>= fun ds => .ok (d :: ds)) >>= one lenD) r fun d => .rt d
def d_Group_size_1 : List D → Res D := runD 1 N_Group_size.length e_Group_size_1
def mt_size_T (c : Nat) : Option (List D → Res D) := if c = 0 then some d_Group_size else if c = 1 then some d_Group_size_1 else none
def e_Rounds_is_even : Env → Oc := fun r => lift (.ok (.bl true)) r fun d => .rt d
def d_Rounds_is_even : List D → Res D := runD 1 N_Rounds_is_even.length e_Rounds_is_even
def break_of_two_l1 : D → Env → Oc := fun d r => (into ((nameG 3) d r)).seq fun r => (lift ((((getS 0 r) >>= fun d => mthD mt_carry d >>= fun g => ((getS 2 r) >>= fun d => ((getS 3 r) >>= fun d => (.ok []) >>= fun ds => .ok (d :: ds)) >>= fun ds => .ok (d :: ds)) >>= g) >>= fun x => ((getS 0 r) >>= fun d => mthD mt_carry d >>= fun g => ((getS 3 r) >>= fun d => ((getS 2 r) >>= fun d => (.ok []) >>= fun ds => .ok (d :: ds)) >>= fun ds => .ok (d :: ds)) >>= g) >>= fun y => neD x y) >>= asB) r fun t => if t = true then (lift (((getS 2 r) >>= fun d => ((getS 3 r) >>= fun d => (.ok []) >>= fun ds => .ok (d :: ds)) >>= fun ds => .ok (d :: ds)) >>= tupD) r fun d => .rt d) else (.nx r))
def break_of_two_l2 : D → Env → Oc := fun d r => (into ((nameG 2) d r)).seq fun r => (lift ((getS 1 r) >>= itemsD) r fun ds => forD (break_of_two_l1) ds r)
def e_break_of_two : Env → Oc := fun r => (lift (((getS 0 r) >>= fldD (plOf [2] "upper")) >>= fun d => mthD mt_members d >>= fun g => g []) r fun d => .nx (r.set 1 (.sh d))).seq fun r => ((lift ((getS 1 r) >>= itemsD) r fun ds => forD (break_of_two_l2) ds r).seq fun r => (lift (.ok .non) r fun d => .rt d))
def d_break_of_two : List D → Res D := runD 1 N_break_of_two.length e_break_of_two
def e_Tower_is_even : Env → Oc := fun r => lift (((((getS 0 r) >>= fldD (plOf [1] "table")) >>= fun d => (.ok []) >>= fun ds => .ok (d :: ds)) >>= d_break_of_two) >>= fun x => (.ok .non) >>= fun y => isN x y) r fun d => .rt d
def d_Tower_is_even : List D → Res D := runD 1 N_Tower_is_even.length e_Tower_is_even
def mt_is_even_T (c : Nat) : Option (List D → Res D) := if c = 0 then some d_Rounds_is_even else if c = 1 then some d_Tower_is_even else none
def e_look_at_groups : Env → Oc := fun r => (lift (((((getS 0 r) >>= fun d => mthD mt_size_T d >>= fun g => g []) >>= fun x => (.ok (.int 16)) >>= fun y => gtD x y) >>= asB) >>= fun t => if t = true then .ok true else ((((getS 0 r) >>= fun d => mthD mt_is_even_T d >>= fun g => g []) >>= asB) >>= fun t => .ok (!t))) r fun t => if t = true then (.er (.exc 13 []) r) else (.nx r)).seq fun r => (lift ((((((getS 1 r) >>= fun d => ((.ok (.cls 0)) >>= fun d => (.ok []) >>= fun ds => .ok (d :: ds)) >>= fun ds => .ok (d :: ds)) >>= two (isD isC isU)) >>= asB) >>= fun t => .ok (!t)) >>= fun t => if t = true then .ok true else ((((getS 1 r) >>= fun d => mthD mt_size_T d >>= fun g => g []) >>= fun x => (.ok (.int 9)) >>= fun y => gtD x y) >>= asB)) r fun t => if t = true then (.er (.exc 14 []) r) else (.nx r))
def d_look_at_groups : List D → Res D := runD 2 N_look_at_groups.length e_look_at_groups
def Table_init_l1 : D → Env → Oc := fun d r => (into ((nameG 6) d r)).seq fun r => ((lift ((((((getS 5 r) >>= fun d => ((getS 6 r) >>= fun d => (.ok []) >>= fun ds => .ok (d :: ds)) >>= fun ds => .ok (d :: ds)) >>= tupD) >>= fun x => (getS 3 r) >>= fun y => notInD x y) >>= asB) >>= fun t => if t = true then .ok true else ((((getS 1 r) >>= fun d => mthD mt_has_T d >>= fun g => (((getS 3 r) >>= fun x => (((getS 5 r) >>= fun d => ((getS 6 r) >>= fun d => (.ok []) >>= fun ds => .ok (d :: ds)) >>= fun ds => .ok (d :: ds)) >>= tupD) >>= fun y => ixD x y) >>= fun d => (.ok []) >>= fun ds => .ok (d :: ds)) >>= g) >>= asB) >>= fun t => .ok (!t))) r fun t => if t = true then (lift ((getS 5 r) >>= fun d => ((getS 6 r) >>= fun d => (.ok []) >>= fun ds => .ok (d :: ds)) >>= fun ds => .ok (d :: ds)) r fun ds => raiseD 23 ds r) else (.nx r)).seq fun r => (setFI 0 2 2 (fun r => (getS 3 r) >>= fun x => (((getS 5 r) >>= fun d => ((getS 6 r) >>= fun d => (.ok []) >>= fun ds => .ok (d :: ds)) >>= fun ds => .ok (d :: ds)) >>= tupD) >>= fun y => ixD x y) (fun r => ((getS 5 r) >>= fun d => ((getS 6 r) >>= fun d => (.ok []) >>= fun ds => .ok (d :: ds)) >>= fun ds => .ok (d :: ds)) >>= tupD) r))
def Table_init_l2 : D → Env → Oc := fun d r => (into ((nameG 5) d r)).seq fun r => (lift ((getS 4 r) >>= itemsD) r fun ds => forD (Table_init_l1) ds r)
def e_Table_init : Env → Oc := fun r => (lift (((getS 1 r) >>= fun d => ((getS 2 r) >>= fun d => (.ok []) >>= fun ds => .ok (d :: ds)) >>= fun ds => .ok (d :: ds)) >>= d_look_at_groups) r fun _ => .nx r).seq fun r => ((lift (getS 1 r) r fun d => setF 0 2 "lower" .sh d r).seq fun r => ((lift (getS 2 r) r fun d => setF 0 2 "upper" .sh d r).seq fun r => ((lift (.ok (.dic [] [])) r fun d => setF 0 2 "kept" .flat d r).seq fun r => ((lift ((getS 2 r) >>= fun d => mthD mt_members_T d >>= fun g => g []) r fun d => .nx (r.set 4 (.sh d))).seq fun r => (lift ((getS 4 r) >>= itemsD) r fun ds => forD (Table_init_l2) ds r)))))
def d_Table_init : List D → Res D := runI 3 N_Table_init.length 2 e_Table_init
def e_q_made_r0 : Env → Oc := fun r => (lift (((((getS 0 r) >>= fun d => (.ok []) >>= fun ds => .ok (d :: ds)) >>= one lenD) >>= fun x => (.ok (.int 1)) >>= fun y => eqD x y) >>= asB) r fun t => if t = true then (lift ((((getS 0 r) >>= fun x => (.ok (.int 0)) >>= fun y => ixD x y) >>= fun d => (.ok []) >>= fun ds => .ok (d :: ds)) >>= d_Rounds_init) r fun d => .rt d) else (.nx r)).seq fun r => (lift (((((.bad) >>= fun d => (((((getS 0 r) >>= fun x => (.ok (.int 1)) >>= fun y => ixD x y) >>= fun d => (.ok []) >>= fun ds => .ok (d :: ds)) >>= d_Rounds_init) >>= fun d => (((((getS 0 r) >>= fun x => (.ok (.int 2)) >>= fun y => ixD x y) >>= fun d => (.ok []) >>= fun ds => .ok (d :: ds)) >>= one dictD) >>= fun d => (.ok []) >>= fun ds => .ok (d :: ds)) >>= fun ds => .ok (d :: ds)) >>= fun ds => .ok (d :: ds)) >>= d_Table_init) >>= fun d => (.ok []) >>= fun ds => .ok (d :: ds)) >>= d_Tower_init) r fun d => .rt d)
def d_q_made_r0 : List D → Res D := runD 1 N_q_made.length e_q_made_r0
def e_q_made_r1 : Env → Oc := fun r => (lift (((((getS 0 r) >>= fun d => (.ok []) >>= fun ds => .ok (d :: ds)) >>= one lenD) >>= fun x => (.ok (.int 1)) >>= fun y => eqD x y) >>= asB) r fun t => if t = true then (lift ((((getS 0 r) >>= fun x => (.ok (.int 0)) >>= fun y => ixD x y) >>= fun d => (.ok []) >>= fun ds => .ok (d :: ds)) >>= d_Rounds_init) r fun d => .rt d) else (.nx r)).seq fun r => (lift ((((((((getS 0 r) >>= fun x => (.ok (.int 0)) >>= fun y => ixD x y) >>= fun d => (.ok []) >>= fun ds => .ok (d :: ds)) >>= d_q_made_r0) >>= fun d => (((((getS 0 r) >>= fun x => (.ok (.int 1)) >>= fun y => ixD x y) >>= fun d => (.ok []) >>= fun ds => .ok (d :: ds)) >>= d_Rounds_init) >>= fun d => (((((getS 0 r) >>= fun x => (.ok (.int 2)) >>= fun y => ixD x y) >>= fun d => (.ok []) >>= fun ds => .ok (d :: ds)) >>= one dictD) >>= fun d => (.ok []) >>= fun ds => .ok (d :: ds)) >>= fun ds => .ok (d :: ds)) >>= fun ds => .ok (d :: ds)) >>= d_Table_init) >>= fun d => (.ok []) >>= fun ds => .ok (d :: ds)) >>= d_Tower_init) r fun d => .rt d)
def d_q_made_r1 : List D → Res D := runD 1 N_q_made.length e_q_made_r1
def e_q_made : Env → Oc := fun r => (lift (((((getS 0 r) >>= fun d => (.ok []) >>= fun ds => .ok (d :: ds)) >>= one lenD) >>= fun x => (.ok (.int 1)) >>= fun y => eqD x y) >>= asB) r fun t => if t = true then (lift ((((getS 0 r) >>= fun x => (.ok (.int 0)) >>= fun y => ixD x y) >>= fun d => (.ok []) >>= fun ds => .ok (d :: ds)) >>= d_Rounds_init) r fun d => .rt d) else (.nx r)).seq fun r => (lift ((((((((getS 0 r) >>= fun x => (.ok (.int 0)) >>= fun y => ixD x y) >>= fun d => (.ok []) >>= fun ds => .ok (d :: ds)) >>= d_q_made_r1) >>= fun d => (((((getS 0 r) >>= fun x => (.ok (.int 1)) >>= fun y => ixD x y) >>= fun d => (.ok []) >>= fun ds => .ok (d :: ds)) >>= d_Rounds_init) >>= fun d => (((((getS 0 r) >>= fun x => (.ok (.int 2)) >>= fun y => ixD x y) >>= fun d => (.ok []) >>= fun ds => .ok (d :: ds)) >>= one dictD) >>= fun d => (.ok []) >>= fun ds => .ok (d :: ds)) >>= fun ds => .ok (d :: ds)) >>= fun ds => .ok (d :: ds)) >>= d_Table_init) >>= fun d => (.ok []) >>= fun ds => .ok (d :: ds)) >>= d_Tower_init) r fun d => .rt d)
def d_q_made : List D → Res D := runD 1 N_q_made.length e_q_made
def Rounds_backed_c1 (r : Env) (ds : List D) : Res (List D) := lcD (tupG 2 (consG (nameG 2) (consG (nameG 3) (nilG))))
  (fun r => .ok true)
  (fun r => ((.ok (.int 0)) >>= fun x => (getS 2 r) >>= fun y => subD x y) >>= fun x => (getS 3 r) >>= fun y => modD x y)
  (wipeR r [2, 3]) ds
def e_Rounds_backed : Env → Oc := fun r => lift ((((((getS 1 r) >>= fun d => (((getS 0 r) >>= fldD (plOf [0] "rounds")) >>= fun d => (.ok []) >>= fun ds => .ok (d :: ds)) >>= fun ds => .ok (d :: ds)) >>= zip2D) >>= fun ds => Rounds_backed_c1 r ds >>= lstD) >>= fun d => (.ok []) >>= fun ds => .ok (d :: ds)) >>= one tupleD) r fun d => .rt d
def d_Rounds_backed : List D → Res D := runD 2 N_Rounds_backed.length e_Rounds_backed
def mt_backed (c : Nat) : Option (List D → Res D) := if c = 0 then some d_Rounds_backed else none
def e_Tower_backed : Env → Oc := fun r => (lift (((getS 0 r) >>= fldD (plOf [1] "table")) >>= fldD (plOf [2] "lower")) r fun d => .nx (r.set 2 (.sh d))).seq fun r => ((lift ((((getS 0 r) >>= fldD (plOf [1] "table")) >>= fldD (plOf [2] "upper")) >>= fun d => mthD mt_backed d >>= fun g => (((getS 1 r) >>= fun x => (.ok (.int 1)) >>= fun y => ixD x y) >>= fun d => (.ok []) >>= fun ds => .ok (d :: ds)) >>= g) r fun d => .nx (r.set 3 (.sh d))).seq fun r => ((lift ((getS 2 r) >>= fun d => mthD mt_put d >>= fun g => (((getS 1 r) >>= fun x => (.ok (.int 0)) >>= fun y => ixD x y) >>= fun d => (((getS 2 r) >>= fun d => mthD mt_put d >>= fun g => ((((getS 0 r) >>= fldD (plOf [1] "table")) >>= fun d => mthD mt_carry d >>= fun g => (((getS 1 r) >>= fun x => (.ok (.int 1)) >>= fun y => ixD x y) >>= fun d => ((getS 3 r) >>= fun d => (.ok []) >>= fun ds => .ok (d :: ds)) >>= fun ds => .ok (d :: ds)) >>= g) >>= fun d => (((getS 0 r) >>= fldD (plOf [1] "ground")) >>= fun d => (.ok []) >>= fun ds => .ok (d :: ds)) >>= fun ds => .ok (d :: ds)) >>= g) >>= fun d => (.ok []) >>= fun ds => .ok (d :: ds)) >>= fun ds => .ok (d :: ds)) >>= g) r fun d => .nx (r.set 4 (.sh d))).seq fun r => (lift ((((getS 2 r) >>= fun d => mthD mt_backed d >>= fun g => ((getS 4 r) >>= fun d => (.ok []) >>= fun ds => .ok (d :: ds)) >>= g) >>= fun d => ((getS 3 r) >>= fun d => (.ok []) >>= fun ds => .ok (d :: ds)) >>= fun ds => .ok (d :: ds)) >>= tupD) r fun d => .rt d)))
def d_Tower_backed : List D → Res D := runD 2 N_Tower_backed.length e_Tower_backed
def mt_backed_T (c : Nat) : Option (List D → Res D) := if c = 0 then some d_Rounds_backed else if c = 1 then some d_Tower_backed else none
def e_Tower_nought : Env → Oc := fun r => lift ((((((getS 0 r) >>= fldD (plOf [1] "table")) >>= fldD (plOf [2] "lower")) >>= fun d => mthD mt_backed d >>= fun g => (((getS 0 r) >>= fldD (plOf [1] "ground")) >>= fun d => (.ok []) >>= fun ds => .ok (d :: ds)) >>= g) >>= fun d => (((((getS 0 r) >>= fldD (plOf [1] "table")) >>= fldD (plOf [2] "upper")) >>= fun d => mthD mt_nought d >>= fun g => g []) >>= fun d => (.ok []) >>= fun ds => .ok (d :: ds)) >>= fun ds => .ok (d :: ds)) >>= tupD) r fun d => .rt d
def d_Tower_nought : List D → Res D := runD 1 N_Tower_nought.length e_Tower_nought
def mt_nought_T (c : Nat) : Option (List D → Res D) := if c = 0 then some d_Rounds_nought else if c = 1 then some d_Tower_nought else none
def e_Tower_lying_2 : Env → Oc := fun r => (lift (((getS 0 r) >>= fldD (plOf [1] "table")) >>= fldD (plOf [2] "lower")) r fun d => .nx (r.set 2 (.sh d))).seq fun r => ((lift ((((getS 2 r) >>= fun d => mthD mt_has_T d >>= fun g => ((getS 1 r) >>= fun d => (.ok []) >>= fun ds => .ok (d :: ds)) >>= g) >>= asB) >>= fun t => .ok (!t)) r fun t => if t = true then (.er (.exc 12 []) r) else (.nx r)).seq fun r => (lift ((((getS 2 r) >>= fun d => mthD mt_put_T d >>= fun g => ((getS 1 r) >>= fun d => (((getS 2 r) >>= fun d => mthD mt_backed_T d >>= fun g => (((getS 0 r) >>= fldD (plOf [1] "ground")) >>= fun d => (.ok []) >>= fun ds => .ok (d :: ds)) >>= g) >>= fun d => (.ok []) >>= fun ds => .ok (d :: ds)) >>= fun ds => .ok (d :: ds)) >>= g) >>= fun d => (((((getS 0 r) >>= fldD (plOf [1] "table")) >>= fldD (plOf [2] "upper")) >>= fun d => mthD mt_nought_T d >>= fun g => g []) >>= fun d => (.ok []) >>= fun ds => .ok (d :: ds)) >>= fun ds => .ok (d :: ds)) >>= tupD) r fun d => .rt d))
def d_Tower_lying_2 : List D → Res D := runD 2 N_Tower_lying.length e_Tower_lying_2
def mt_lying_T_T (c : Nat) : Option (List D → Res D) := if c = 1 then some d_Tower_lying_2 else none
def e_Tower_has_2 : Env → Oc := fun r => (lift ((((((getS 1 r) >>= fun d => ((.ok (.ty "tuple")) >>= fun d => (.ok []) >>= fun ds => .ok (d :: ds)) >>= fun ds => .ok (d :: ds)) >>= two (isD isC isU)) >>= asB) >>= fun t => .ok (!t)) >>= fun t => if t = true then .ok true else (((((getS 1 r) >>= fun d => (.ok []) >>= fun ds => .ok (d :: ds)) >>= one lenD) >>= fun x => (.ok (.int 2)) >>= fun y => neD x y) >>= asB)) r fun t => if t = true then (lift (.ok (.bl false)) r fun d => .rt d) else (.nx r)).seq fun r => (lift ((((((getS 0 r) >>= fldD (plOf [1] "table")) >>= fldD (plOf [2] "lower")) >>= fun d => mthD mt_has_T d >>= fun g => (((getS 1 r) >>= fun x => (.ok (.int 0)) >>= fun y => ixD x y) >>= fun d => (.ok []) >>= fun ds => .ok (d :: ds)) >>= g) >>= asB) >>= fun t => if t = true then ((((getS 0 r) >>= fldD (plOf [1] "table")) >>= fldD (plOf [2] "upper")) >>= fun d => mthD mt_has_T d >>= fun g => (((getS 1 r) >>= fun x => (.ok (.int 1)) >>= fun y => ixD x y) >>= fun d => (.ok []) >>= fun ds => .ok (d :: ds)) >>= g) else .ok (.bl false)) r fun d => .rt d)
def d_Tower_has_2 : List D → Res D := runD 2 N_Tower_has.length e_Tower_has_2
def mt_has_T_T (c : Nat) : Option (List D → Res D) := if c = 0 then some d_Rounds_has else if c = 1 then some d_Tower_has_2 else none
def e_Group_look_at_1_2 : Env → Oc := fun r => lift ((((getS 0 r) >>= fun d => mthD mt_has_T_T d >>= fun g => ((getS 1 r) >>= fun d => (.ok []) >>= fun ds => .ok (d :: ds)) >>= g) >>= asB) >>= fun t => .ok (!t)) r fun t => if t = true then (.er (.exc 12 []) r) else (.nx r)
def d_Group_look_at_1_2 : List D → Res D := runD 2 N_Group_look_at.length e_Group_look_at_1_2
def mt_look_at_T_T (c : Nat) : Option (List D → Res D) := if c = 0 then some d_Group_look_at else if c = 1 then some d_Group_look_at_1_2 else none
def e_Tower_put_2 : Env → Oc := fun r => (lift (((getS 0 r) >>= fldD (plOf [1] "table")) >>= fldD (plOf [2] "lower")) r fun d => .nx (r.set 3 (.sh d))).seq fun r => ((lift (((getS 0 r) >>= fldD (plOf [1] "table")) >>= fun d => mthD mt_carry d >>= fun g => (((getS 1 r) >>= fun x => (.ok (.int 1)) >>= fun y => ixD x y) >>= fun d => (((getS 2 r) >>= fun x => (.ok (.int 1)) >>= fun y => ixD x y) >>= fun d => (.ok []) >>= fun ds => .ok (d :: ds)) >>= fun ds => .ok (d :: ds)) >>= g) r fun d => .nx (r.set 4 (.sh d))).seq fun r => (lift ((((getS 3 r) >>= fun d => mthD mt_put_T d >>= fun g => (((getS 3 r) >>= fun d => mthD mt_put_T d >>= fun g => (((getS 1 r) >>= fun x => (.ok (.int 0)) >>= fun y => ixD x y) >>= fun d => (((getS 2 r) >>= fun x => (.ok (.int 0)) >>= fun y => ixD x y) >>= fun d => (.ok []) >>= fun ds => .ok (d :: ds)) >>= fun ds => .ok (d :: ds)) >>= g) >>= fun d => ((getS 4 r) >>= fun d => (.ok []) >>= fun ds => .ok (d :: ds)) >>= fun ds => .ok (d :: ds)) >>= g) >>= fun d => (((((getS 0 r) >>= fldD (plOf [1] "table")) >>= fldD (plOf [2] "upper")) >>= fun d => mthD mt_put_T d >>= fun g => (((getS 1 r) >>= fun x => (.ok (.int 1)) >>= fun y => ixD x y) >>= fun d => (((getS 2 r) >>= fun x => (.ok (.int 1)) >>= fun y => ixD x y) >>= fun d => (.ok []) >>= fun ds => .ok (d :: ds)) >>= fun ds => .ok (d :: ds)) >>= g) >>= fun d => (.ok []) >>= fun ds => .ok (d :: ds)) >>= fun ds => .ok (d :: ds)) >>= tupD) r fun d => .rt d))
def d_Tower_put_2 : List D → Res D := runD 3 N_Tower_put.length e_Tower_put_2
def mt_put_T_T (c : Nat) : Option (List D → Res D) := if c = 0 then some d_Rounds_put else if c = 1 then some d_Tower_put_2 else none
def e_Group_added_1_2 : Env → Oc := fun r => (lift ((getS 0 r) >>= fun d => mthD mt_look_at_T_T d >>= fun g => ((getS 1 r) >>= fun d => (.ok []) >>= fun ds => .ok (d :: ds)) >>= g) r fun _ => .nx r).seq fun r => ((lift ((getS 0 r) >>= fun d => mthD mt_look_at_T_T d >>= fun g => ((getS 2 r) >>= fun d => (.ok []) >>= fun ds => .ok (d :: ds)) >>= g) r fun _ => .nx r).seq fun r => (lift ((getS 0 r) >>= fun d => mthD mt_put_T_T d >>= fun g => ((getS 1 r) >>= fun d => ((getS 2 r) >>= fun d => (.ok []) >>= fun ds => .ok (d :: ds)) >>= fun ds => .ok (d :: ds)) >>= g) r fun d => .rt d))
def d_Group_added_1_2 : List D → Res D := runD 3 N_Group_added.length e_Group_added_1_2
def mt_added_T_T (c : Nat) : Option (List D → Res D) := if c = 0 then some d_Group_added else if c = 1 then some d_Group_added_1_2 else none
def Tower_over_2_c1 (r : Env) (ds : List D) : Res (List D) := lcD (nameG 2)
  (fun r => .ok true)
  (fun r => ((getS 2 r) >>= fun d => ((getS 1 r) >>= fun d => (.ok []) >>= fun ds => .ok (d :: ds)) >>= fun ds => .ok (d :: ds)) >>= tupD)
  (wipeR r [2]) ds
def e_Tower_over_2 : Env → Oc := fun r => (lift ((((((getS 0 r) >>= fldD (plOf [1] "table")) >>= fldD (plOf [2] "upper")) >>= fun d => mthD mt_has_T d >>= fun g => ((getS 1 r) >>= fun d => (.ok []) >>= fun ds => .ok (d :: ds)) >>= g) >>= asB) >>= fun t => .ok (!t)) r fun t => if t = true then (.er (.exc 12 []) r) else (.nx r)).seq fun r => (lift ((((((getS 0 r) >>= fldD (plOf [1] "table")) >>= fldD (plOf [2] "lower")) >>= fun d => mthD mt_members_T d >>= fun g => g []) >>= itemsD) >>= fun ds => Tower_over_2_c1 r ds >>= lstD) r fun d => .rt d)
def d_Tower_over_2 : List D → Res D := runO 2 N_Tower_over.length e_Tower_over_2
def mt_over_T_T (c : Nat) : Option (List D → Res D) := if c = 1 then some d_Tower_over_2 else none
def q_near_c1 (r : Env) (ds : List D) : Res (List D) := lcD (nameG 3)
  (fun r => .ok true)
  (fun r => (getS 3 r) >>= fun x => (.ok (.int 1)) >>= fun y => eqD x y)
  (wipeR r [3]) ds
def q_near_c2 (r : Env) (ds : List D) : Res (List D) := lcD (nameG 3)
  (fun r => .ok true)
  (fun r => .ok (.int 99))
  (wipeR r [3]) ds
def e_q_near : Env → Oc := fun r => (lift ((((((getS 0 r) >>= fun d => (.ok []) >>= fun ds => .ok (d :: ds)) >>= one lenD) >>= fun x => (.ok (.int 2)) >>= fun y => eqD x y) >>= asB) >>= fun t => if t = true then (((((getS 0 r) >>= fun x => (.ok (.int 0)) >>= fun y => ixD x y) >>= fun d => ((.ok (.ty "tuple")) >>= fun d => (.ok []) >>= fun ds => .ok (d :: ds)) >>= fun ds => .ok (d :: ds)) >>= two (isD isC isU)) >>= asB) else .ok false) r fun t => if t = true then ((lift ((getS 0 r) >>= fun x => (.ok (.int 0)) >>= fun y => ixD x y) r fun d => .nx (r.set 1 (.sh d))).seq fun r => ((lift (((((((((getS 1 r) >>= itemsD) >>= fun ds => q_near_c1 r ds >>= lstD) >>= fun d => (.ok []) >>= fun ds => .ok (d :: ds)) >>= one tupleD) >>= fun d => (((getS 0 r) >>= fun x => (.ok (.int 1)) >>= fun y => ixD x y) >>= fun d => (.ok []) >>= fun ds => .ok (d :: ds)) >>= fun ds => .ok (d :: ds)) >>= tupD) >>= fun d => (((((getS 1 r) >>= fun x => (((.ok (.int 0)) >>= fun d => (.ok []) >>= fun ds => .ok (d :: ds)) >>= tupD) >>= fun y => addD x y) >>= fun d => (((getS 0 r) >>= fun x => (.ok (.int 1)) >>= fun y => ixD x y) >>= fun d => (.ok []) >>= fun ds => .ok (d :: ds)) >>= fun ds => .ok (d :: ds)) >>= tupD) >>= fun d => ((((((getS 1 r) >>= fun d => (.ok []) >>= fun ds => .ok (d :: ds)) >>= one listD) >>= fun d => (((getS 0 r) >>= fun x => (.ok (.int 1)) >>= fun y => ixD x y) >>= fun d => (.ok []) >>= fun ds => .ok (d :: ds)) >>= fun ds => .ok (d :: ds)) >>= tupD) >>= fun d => (.ok []) >>= fun ds => .ok (d :: ds)) >>= fun ds => .ok (d :: ds)) >>= fun ds => .ok (d :: ds)) >>= lstD) r fun d => .nx (r.set 2 (.sh d))).seq fun r => (lift ((getS 2 r) >>= fun x => (((((getS 1 r) >>= fun d => ((((.ok (.bl true)) >>= fun d => (.ok []) >>= fun ds => .ok (d :: ds)) >>= tupD) >>= fun d => (.ok []) >>= fun ds => .ok (d :: ds)) >>= fun ds => .ok (d :: ds)) >>= tupD) >>= fun d => ((((getS 1 r) >>= fun d => ((.ok (.int 0)) >>= fun d => (.ok []) >>= fun ds => .ok (d :: ds)) >>= fun ds => .ok (d :: ds)) >>= tupD) >>= fun d => ((getS 1 r) >>= fun d => ((((getS 1 r) >>= fun d => (((getS 0 r) >>= fun x => (.ok (.int 1)) >>= fun y => ixD x y) >>= fun d => (((getS 0 r) >>= fun x => (.ok (.int 1)) >>= fun y => ixD x y) >>= fun d => (.ok []) >>= fun ds => .ok (d :: ds)) >>= fun ds => .ok (d :: ds)) >>= fun ds => .ok (d :: ds)) >>= tupD) >>= fun d => (.ok []) >>= fun ds => .ok (d :: ds)) >>= fun ds => .ok (d :: ds)) >>= fun ds => .ok (d :: ds)) >>= fun ds => .ok (d :: ds)) >>= lstD) >>= fun y => addD x y) r fun d => .rt d))) else (.nx r)).seq fun r => ((lift ((((getS 0 r) >>= fun x => (((.ok (.int 0)) >>= fun d => (.ok []) >>= fun ds => .ok (d :: ds)) >>= tupD) >>= fun y => addD x y) >>= fun d => ((((getS 0 r) >>= fun d => (.ok []) >>= fun ds => .ok (d :: ds)) >>= one listD) >>= fun d => (((((.ok (.bl true)) >>= fun d => (.ok []) >>= fun ds => .ok (d :: ds)) >>= tupD) >>= fun x => (((.ok (.int 1)) >>= fun d => ((((getS 0 r) >>= fun d => (.ok []) >>= fun ds => .ok (d :: ds)) >>= one lenD) >>= fun d => (.ok []) >>= fun ds => .ok (d :: ds)) >>= fun ds => .ok (d :: ds)) >>= two maxD) >>= fun y => mulD x y) >>= fun d => (((((((getS 0 r) >>= itemsD) >>= fun ds => q_near_c2 r ds >>= lstD) >>= fun d => (.ok []) >>= fun ds => .ok (d :: ds)) >>= one tupleD) >>= fun x => ((((.ok (.int 1)) >>= negD) >>= fun d => (.ok []) >>= fun ds => .ok (d :: ds)) >>= tupD) >>= fun y => addD x y) >>= fun d => (.ok []) >>= fun ds => .ok (d :: ds)) >>= fun ds => .ok (d :: ds)) >>= fun ds => .ok (d :: ds)) >>= fun ds => .ok (d :: ds)) >>= lstD) r fun d => .nx (r.set 2 (.sh d))).seq fun r => (lift ((getS 2 r) >>= fun x => ((((((.ok (.bl false)) >>= fun d => (.ok []) >>= fun ds => .ok (d :: ds)) >>= tupD) >>= fun x => ((getS 0 r) >>= fun d => ((.ok (.int 1)) >>= fun d => asI d >>= fun i => .ok (some i)) >>= fun lo => (.ok none) >>= fun hi => sliceD d lo hi) >>= fun y => addD x y) >>= fun d => ((.ok .non) >>= fun d => ((.ok (.str "0")) >>= fun d => (.ok []) >>= fun ds => .ok (d :: ds)) >>= fun ds => .ok (d :: ds)) >>= fun ds => .ok (d :: ds)) >>= lstD) >>= fun y => addD x y) r fun d => .rt d))
def d_q_near : List D → Res D := runD 1 N_q_near.length e_q_near
def e_q_refused : Env → Oc := fun r => (lift ((.ok []) >>= lstD) r fun d => .nx (r.set 3 (.sh d))).seq fun r => ((tryD ctC ctU (fun r => lift (((getS 0 r) >>= fun x => (.ok (.int 0)) >>= fun y => eqD x y) >>= asB) r fun t => if t = true then (lift ((getS 1 r) >>= fun d => mthD mt_lying_T_T d >>= fun g => ((getS 2 r) >>= fun d => (.ok []) >>= fun ds => .ok (d :: ds)) >>= g) r fun _ => .nx r) else (lift ((getS 1 r) >>= fun d => mthD mt_over_T_T d >>= fun g => ((getS 2 r) >>= fun d => (.ok []) >>= fun ds => .ok (d :: ds)) >>= g) r fun _ => .nx r)) [⟨10, some 4, fun r => lift (((((getS 4 r) >>= fun d => ((.ok (.cls 12)) >>= fun d => (.ok []) >>= fun ds => .ok (d :: ds)) >>= fun ds => .ok (d :: ds)) >>= two (isD isC isU)) >>= fun d => (.ok []) >>= fun ds => .ok (d :: ds)) >>= lstD) r fun d => .nx (r.set 3 (.sh d))⟩] r).seq fun r => (lift ((getS 3 r) >>= fun x => (((.ok (.bl true)) >>= fun d => (.ok []) >>= fun ds => .ok (d :: ds)) >>= lstD) >>= fun y => eqD x y) r fun d => .rt d))
def d_q_refused : List D → Res D := runD 3 N_q_refused.length e_q_refused
def law_s1 : Env → Oc := fun r => lift ((((((((.ok (.int 2)) >>= fun d => (.ok []) >>= fun ds => .ok (d :: ds)) >>= tupD) >>= fun d => ((((.ok (.int 3)) >>= fun d => (.ok []) >>= fun ds => .ok (d :: ds)) >>= tupD) >>= fun d => ((((.ok (.int 4)) >>= fun d => (.ok []) >>= fun ds => .ok (d :: ds)) >>= tupD) >>= fun d => ((((.ok (.int 2)) >>= fun d => ((.ok (.int 2)) >>= fun d => (.ok []) >>= fun ds => .ok (d :: ds)) >>= fun ds => .ok (d :: ds)) >>= tupD) >>= fun d => ((((.ok (.int 6)) >>= fun d => (.ok []) >>= fun ds => .ok (d :: ds)) >>= tupD) >>= fun d => ((((.ok (.int 2)) >>= fun d => ((.ok (.int 4)) >>= fun d => (.ok []) >>= fun ds => .ok (d :: ds)) >>= fun ds => .ok (d :: ds)) >>= tupD) >>= fun d => (((.ok []) >>= tupD) >>= fun d => ((((.ok (.int 3)) >>= fun d => ((.ok (.int 3)) >>= fun d => (.ok []) >>= fun ds => .ok (d :: ds)) >>= fun ds => .ok (d :: ds)) >>= tupD) >>= fun d => (.ok []) >>= fun ds => .ok (d :: ds)) >>= fun ds => .ok (d :: ds)) >>= fun ds => .ok (d :: ds)) >>= fun ds => .ok (d :: ds)) >>= fun ds => .ok (d :: ds)) >>= fun ds => .ok (d :: ds)) >>= fun ds => .ok (d :: ds)) >>= fun ds => .ok (d :: ds)) >>= lstD) >>= fun x => ((((getS 0 r) >>= fun d => ((.ok (.int 0)) >>= fun d => (.ok []) >>= fun ds => .ok (d :: ds)) >>= fun ds => .ok (d :: ds)) >>= d_q_cell) >>= fun x => (.ok (.int 8)) >>= fun y => modD x y) >>= fun y => ixD x y) >>= fun d => (.ok []) >>= fun ds => .ok (d :: ds)) >>= tupD) r fun d => .nx (r.set 1 (.sh d))
def law_s2_1 : Env → Oc := fun r => lift ((((((((.ok (.int 2)) >>= fun d => (.ok []) >>= fun ds => .ok (d :: ds)) >>= tupD) >>= fun d => ((((.ok (.int 3)) >>= fun d => (.ok []) >>= fun ds => .ok (d :: ds)) >>= tupD) >>= fun d => ((((.ok (.int 4)) >>= fun d => (.ok []) >>= fun ds => .ok (d :: ds)) >>= tupD) >>= fun d => ((((.ok (.int 2)) >>= fun d => ((.ok (.int 2)) >>= fun d => (.ok []) >>= fun ds => .ok (d :: ds)) >>= fun ds => .ok (d :: ds)) >>= tupD) >>= fun d => (.ok []) >>= fun ds => .ok (d :: ds)) >>= fun ds => .ok (d :: ds)) >>= fun ds => .ok (d :: ds)) >>= fun ds => .ok (d :: ds)) >>= lstD) >>= fun x => ((((getS 0 r) >>= fun d => ((.ok (.int 0)) >>= fun d => (.ok []) >>= fun ds => .ok (d :: ds)) >>= fun ds => .ok (d :: ds)) >>= d_q_cell) >>= fun x => (.ok (.int 4)) >>= fun y => modD x y) >>= fun y => ixD x y) >>= fun d => (.ok []) >>= fun ds => .ok (d :: ds)) >>= tupD) r fun d => .nx (r.set 2 (.sh d))
def law_s2_2 : Env → Oc := fun r => lift (((getS 2 r) >>= fun d => (((((((.ok (.int 2)) >>= fun d => (.ok []) >>= fun ds => .ok (d :: ds)) >>= tupD) >>= fun d => ((((.ok (.int 3)) >>= fun d => (.ok []) >>= fun ds => .ok (d :: ds)) >>= tupD) >>= fun d => (.ok []) >>= fun ds => .ok (d :: ds)) >>= fun ds => .ok (d :: ds)) >>= lstD) >>= fun x => ((((getS 0 r) >>= fun d => ((.ok (.int 2)) >>= fun d => (.ok []) >>= fun ds => .ok (d :: ds)) >>= fun ds => .ok (d :: ds)) >>= d_q_cell) >>= fun x => (.ok (.int 2)) >>= fun y => modD x y) >>= fun y => ixD x y) >>= fun d => ((getS 0 r) >>= fun d => ((.ok (.int 300)) >>= fun d => (.ok []) >>= fun ds => .ok (d :: ds)) >>= fun ds => .ok (d :: ds)) >>= fun ds => .ok (d :: ds)) >>= fun ds => .ok (d :: ds)) >>= d_q_laid) r fun d => .nx (r.set 1 (.sh d))
def law_s2 : Env → Oc := fun r => lift ((((((getS 0 r) >>= fun d => ((.ok (.int 1)) >>= fun d => (.ok []) >>= fun ds => .ok (d :: ds)) >>= fun ds => .ok (d :: ds)) >>= d_q_cell) >>= fun x => (.ok (.int 2)) >>= fun y => modD x y) >>= fun x => (.ok (.int 1)) >>= fun y => eqD x y) >>= asB) r fun t => if t = true then ((law_s2_1 r).seq fun r => (law_s2_2 r)) else (.nx r)
def law_s3 : Env → Oc := fun r => lift ((((((.ok (.int 2)) >>= fun d => (.ok []) >>= fun ds => .ok (d :: ds)) >>= tupD) >>= fun d => ((((.ok (.int 3)) >>= fun d => (.ok []) >>= fun ds => .ok (d :: ds)) >>= tupD) >>= fun d => ((((.ok (.int 2)) >>= fun d => ((.ok (.int 2)) >>= fun d => (.ok []) >>= fun ds => .ok (d :: ds)) >>= fun ds => .ok (d :: ds)) >>= tupD) >>= fun d => ((((.ok (.int 4)) >>= fun d => (.ok []) >>= fun ds => .ok (d :: ds)) >>= tupD) >>= fun d => ((((.ok (.int 6)) >>= fun d => (.ok []) >>= fun ds => .ok (d :: ds)) >>= tupD) >>= fun d => (((.ok []) >>= tupD) >>= fun d => (.ok []) >>= fun ds => .ok (d :: ds)) >>= fun ds => .ok (d :: ds)) >>= fun ds => .ok (d :: ds)) >>= fun ds => .ok (d :: ds)) >>= fun ds => .ok (d :: ds)) >>= fun ds => .ok (d :: ds)) >>= lstD) >>= fun x => ((((getS 0 r) >>= fun d => ((.ok (.int 4)) >>= fun d => (.ok []) >>= fun ds => .ok (d :: ds)) >>= fun ds => .ok (d :: ds)) >>= d_q_cell) >>= fun x => (.ok (.int 6)) >>= fun y => modD x y) >>= fun y => ixD x y) r fun d => .nx (r.set 3 (.sh d))
def law_s4 : Env → Oc := fun r => lift (((getS 1 r) >>= fun d => ((getS 3 r) >>= fun d => ((getS 0 r) >>= fun d => ((.ok (.int 400)) >>= fun d => (.ok []) >>= fun ds => .ok (d :: ds)) >>= fun ds => .ok (d :: ds)) >>= fun ds => .ok (d :: ds)) >>= fun ds => .ok (d :: ds)) >>= d_q_laid) r fun d => .nx (r.set 4 (.sh d))
def law_s5 : Env → Oc := fun r => lift (((getS 4 r) >>= fun d => (.ok []) >>= fun ds => .ok (d :: ds)) >>= d_q_made) r fun d => .nx (r.set 5 (.sh d))
def law_c1 (r : Env) (ds : List D) : Res (List D) := lcD (nameG 20)
  (fun r => .ok true)
  (fun r => .ok (.int 0))
  (wipeR r [20]) ds
def law_s6 : Env → Oc := fun r => lift (((((getS 3 r) >>= itemsD) >>= fun ds => law_c1 r ds >>= lstD) >>= fun d => (.ok []) >>= fun ds => .ok (d :: ds)) >>= one tupleD) r fun d => .nx (r.set 6 (.sh d))
def law_s7 : Env → Oc := fun r => lift (((getS 1 r) >>= fun d => (.ok []) >>= fun ds => .ok (d :: ds)) >>= d_q_all) r fun d => .nx (r.set 7 (.sh d))
def law_s8 : Env → Oc := fun r => lift ((((getS 1 r) >>= fun d => (.ok []) >>= fun ds => .ok (d :: ds)) >>= d_q_backs) >>= fun x => (((getS 4 r) >>= fun x => (.ok (.int 2)) >>= fun y => ixD x y) >>= fun x => (((getS 6 r) >>= fun d => ((getS 6 r) >>= fun d => (.ok []) >>= fun ds => .ok (d :: ds)) >>= fun ds => .ok (d :: ds)) >>= tupD) >>= fun y => ixD x y) >>= fun y => ixD x y) r fun d => .nx (r.set 8 (.sh d))
def law_s9 : Env → Oc := fun r => lift (.ok (.dic [] [])) r fun d => .nx (r.set 9 (.ow .flat d))
def law_s10_1 : Env → Oc := fun r => setG 9 (fun r => (getS 5 r) >>= fun d => mthD mt_lying_T_T d >>= fun g => ((getS 10 r) >>= fun d => (.ok []) >>= fun ds => .ok (d :: ds)) >>= g) (fun r => getS 10 r) r
def law_s10_2 : Env → Oc := fun r => lift (((((((getR 9 r) >>= fun x => (getS 10 r) >>= fun y => ixD x y) >>= fun d => ((.ok (.ty "tuple")) >>= fun d => (.ok []) >>= fun ds => .ok (d :: ds)) >>= fun ds => .ok (d :: ds)) >>= two (isD isC isU)) >>= asB) >>= fun t => .ok (!t)) >>= fun t => if t = true then .ok true else ((((getR 9 r) >>= fun x => (getS 10 r) >>= fun y => ixD x y) >>= fun x => (((((getS 1 r) >>= fun d => ((getS 10 r) >>= fun d => ((getS 8 r) >>= fun d => (.ok []) >>= fun ds => .ok (d :: ds)) >>= fun ds => .ok (d :: ds)) >>= fun ds => .ok (d :: ds)) >>= d_q_put) >>= fun d => ((getS 6 r) >>= fun d => (.ok []) >>= fun ds => .ok (d :: ds)) >>= fun ds => .ok (d :: ds)) >>= tupD) >>= fun y => neD x y) >>= asB)) r fun t => if t = true then (lift (.ok (.bl false)) r fun d => .rt d) else (.nx r)
def law_l2 : D → Env → Oc := fun d r => (into ((nameG 10) d r)).seq fun r => ((law_s10_1 r).seq fun r => (law_s10_2 r))
def law_s10 : Env → Oc := fun r => lift ((getS 7 r) >>= itemsD) r fun ds => forD (law_l2) ds r
def law_s11_1 : Env → Oc := fun r => lift ((getS 7 r) >>= fun x => ((((getS 0 r) >>= fun d => (((.ok (.int 120)) >>= fun x => ((.ok (.int 2)) >>= fun x => (getS 11 r) >>= fun y => mulD x y) >>= fun y => addD x y) >>= fun d => (.ok []) >>= fun ds => .ok (d :: ds)) >>= fun ds => .ok (d :: ds)) >>= d_q_cell) >>= fun x => (((getS 7 r) >>= fun d => (.ok []) >>= fun ds => .ok (d :: ds)) >>= one lenD) >>= fun y => modD x y) >>= fun y => ixD x y) r fun d => .nx (r.set 10 (.sh d))
def law_s11_2 : Env → Oc := fun r => lift ((getS 7 r) >>= fun x => ((((getS 0 r) >>= fun d => (((.ok (.int 121)) >>= fun x => ((.ok (.int 2)) >>= fun x => (getS 11 r) >>= fun y => mulD x y) >>= fun y => addD x y) >>= fun d => (.ok []) >>= fun ds => .ok (d :: ds)) >>= fun ds => .ok (d :: ds)) >>= d_q_cell) >>= fun x => (((getS 7 r) >>= fun d => (.ok []) >>= fun ds => .ok (d :: ds)) >>= one lenD) >>= fun y => modD x y) >>= fun y => ixD x y) r fun d => .nx (r.set 12 (.sh d))
def law_s11_3 : Env → Oc := fun r => lift ((((getS 5 r) >>= fun d => mthD mt_added_T_T d >>= fun g => (((getR 9 r) >>= fun x => (getS 10 r) >>= fun y => ixD x y) >>= fun d => (((getR 9 r) >>= fun x => (getS 12 r) >>= fun y => ixD x y) >>= fun d => (.ok []) >>= fun ds => .ok (d :: ds)) >>= fun ds => .ok (d :: ds)) >>= g) >>= fun x => ((getR 9 r) >>= fun x => (((getS 1 r) >>= fun d => ((getS 10 r) >>= fun d => ((getS 12 r) >>= fun d => (.ok []) >>= fun ds => .ok (d :: ds)) >>= fun ds => .ok (d :: ds)) >>= fun ds => .ok (d :: ds)) >>= d_q_put) >>= fun y => ixD x y) >>= fun y => neD x y) >>= asB) r fun t => if t = true then (lift (.ok (.bl false)) r fun d => .rt d) else (.nx r)
def law_l3 : D → Env → Oc := fun d r => (into ((nameG 11) d r)).seq fun r => ((law_s11_1 r).seq fun r => ((law_s11_2 r).seq fun r => (law_s11_3 r)))
def law_s11 : Env → Oc := fun r => lift (((.ok (.int 20)) >>= fun d => (.ok []) >>= fun ds => .ok (d :: ds)) >>= rng1) r fun ds => forD (law_l3) ds r
def law_s12 : Env → Oc := fun r => lift (((((getR 9 r) >>= sortedVD) >>= fun x => ((getS 5 r) >>= fun d => mthD mt_over_T_T d >>= fun g => ((getS 6 r) >>= fun d => (.ok []) >>= fun ds => .ok (d :: ds)) >>= g) >>= fun y => neD x y) >>= asB) >>= fun t => if t = true then .ok true else ((((((getS 4 r) >>= fun d => (.ok []) >>= fun ds => .ok (d :: ds)) >>= d_q_made) >>= fun d => mthD mt_over_T_T d >>= fun g => ((getS 6 r) >>= fun d => (.ok []) >>= fun ds => .ok (d :: ds)) >>= g) >>= fun x => ((getS 5 r) >>= fun d => mthD mt_over_T_T d >>= fun g => ((getS 6 r) >>= fun d => (.ok []) >>= fun ds => .ok (d :: ds)) >>= g) >>= fun y => neD x y) >>= asB)) r fun t => if t = true then (lift (.ok (.bl false)) r fun d => .rt d) else (.nx r)
def law_s13_1_1 : Env → Oc := fun r => lift ((getS 5 r) >>= fun d => mthD mt_over_T_T d >>= fun g => ((getS 13 r) >>= fun d => (.ok []) >>= fun ds => .ok (d :: ds)) >>= g) r fun d => .nx (r.set 15 (.ow .flat d))
def law_c4 (r : Env) (ds : List D) : Res (List D) := lcD (nameG 10)
  (fun r => .ok true)
  (fun r => ((getS 10 r) >>= fun d => ((getS 13 r) >>= fun d => (.ok []) >>= fun ds => .ok (d :: ds)) >>= fun ds => .ok (d :: ds)) >>= tupD)
  (wipeR r [10]) ds
def law_s13_1_2 : Env → Oc := fun r => lift ((((((getR 15 r) >>= fun d => ((.ok (.ty "list")) >>= fun d => (.ok []) >>= fun ds => .ok (d :: ds)) >>= fun ds => .ok (d :: ds)) >>= two (isD isC isU)) >>= asB) >>= fun t => .ok (!t)) >>= fun t => if t = true then .ok true else (((getR 15 r) >>= fun x => (((getS 7 r) >>= itemsD) >>= fun ds => law_c4 r ds >>= lstD) >>= fun y => neD x y) >>= asB)) r fun t => if t = true then (lift (.ok (.bl false)) r fun d => .rt d) else (.nx r)
def law_s13_1_3 : Env → Oc := fun r => clrG 15 r
def law_l5 : D → Env → Oc := fun d r => (into ((nameG 14) d r)).seq fun r => ((law_s13_1_1 r).seq fun r => ((law_s13_1_2 r).seq fun r => (law_s13_1_3 r)))
def law_s13_1 : Env → Oc := fun r => lift (((.ok (.int 2)) >>= fun d => (.ok []) >>= fun ds => .ok (d :: ds)) >>= rng1) r fun ds => forD (law_l5) ds r
def law_l6 : D → Env → Oc := fun d r => (into ((nameG 13) d r)).seq fun r => (law_s13_1 r)
def law_s13 : Env → Oc := fun r => lift ((((getS 3 r) >>= fun d => (.ok []) >>= fun ds => .ok (d :: ds)) >>= d_q_elements) >>= itemsD) r fun ds => forD (law_l6) ds r
def law_s14 : Env → Oc := fun r => lift (((getS 3 r) >>= fun d => (.ok []) >>= fun ds => .ok (d :: ds)) >>= d_q_elements) r fun d => .nx (r.set 16 (.sh d))
def law_s15 : Env → Oc := fun r => lift ((getS 16 r) >>= fun x => ((((getS 0 r) >>= fun d => ((.ok (.int 60)) >>= fun d => (.ok []) >>= fun ds => .ok (d :: ds)) >>= fun ds => .ok (d :: ds)) >>= d_q_cell) >>= fun x => (((getS 16 r) >>= fun d => (.ok []) >>= fun ds => .ok (d :: ds)) >>= one lenD) >>= fun y => modD x y) >>= fun y => ixD x y) r fun d => .nx (r.set 13 (.sh d))
def law_s16 : Env → Oc := fun r => lift ((getS 16 r) >>= fun x => ((((getS 0 r) >>= fun d => ((.ok (.int 64)) >>= fun d => (.ok []) >>= fun ds => .ok (d :: ds)) >>= fun ds => .ok (d :: ds)) >>= d_q_cell) >>= fun x => (((getS 16 r) >>= fun d => (.ok []) >>= fun ds => .ok (d :: ds)) >>= one lenD) >>= fun y => modD x y) >>= fun y => ixD x y) r fun d => .nx (r.set 17 (.sh d))
def law_s17 : Env → Oc := fun r => lift ((((getS 5 r) >>= fun d => mthD mt_added_T_T d >>= fun g => ((((getS 5 r) >>= fun d => mthD mt_over_T_T d >>= fun g => ((getS 13 r) >>= fun d => (.ok []) >>= fun ds => .ok (d :: ds)) >>= g) >>= fun x => ((.ok (.int 1)) >>= negD) >>= fun y => ixD x y) >>= fun d => ((((getS 5 r) >>= fun d => mthD mt_over_T_T d >>= fun g => ((getS 17 r) >>= fun d => (.ok []) >>= fun ds => .ok (d :: ds)) >>= g) >>= fun x => (.ok (.int 0)) >>= fun y => ixD x y) >>= fun d => (.ok []) >>= fun ds => .ok (d :: ds)) >>= fun ds => .ok (d :: ds)) >>= g) >>= fun x => ((getS 5 r) >>= fun d => mthD mt_over_T_T d >>= fun g => ((((getS 3 r) >>= fun d => ((getS 13 r) >>= fun d => ((getS 17 r) >>= fun d => (.ok []) >>= fun ds => .ok (d :: ds)) >>= fun ds => .ok (d :: ds)) >>= fun ds => .ok (d :: ds)) >>= d_q_plus) >>= fun d => (.ok []) >>= fun ds => .ok (d :: ds)) >>= g) >>= fun y => notInD x y) >>= asB) r fun t => if t = true then (lift (.ok (.bl false)) r fun d => .rt d) else (.nx r)
def law_s18 : Env → Oc := fun r => lift (((((getS 0 r) >>= fun d => ((.ok (.int 3)) >>= fun d => (.ok []) >>= fun ds => .ok (d :: ds)) >>= fun ds => .ok (d :: ds)) >>= d_q_cell) >>= fun x => (.ok (.int 8)) >>= fun y => divD x y) >>= fun x => (.ok (.int 2)) >>= fun y => modD x y) r fun d => .nx (r.set 18 (.sh d))
def law_s19 : Env → Oc := fun r => lift ((((((((getS 7 r) >>= fun x => ((.ok (.int 1)) >>= negD) >>= fun y => ixD x y) >>= fun d => (((getS 16 r) >>= fun x => ((.ok (.int 1)) >>= negD) >>= fun y => ixD x y) >>= fun d => (.ok []) >>= fun ds => .ok (d :: ds)) >>= fun ds => .ok (d :: ds)) >>= lstD) >>= fun x => (getS 18 r) >>= fun y => ixD x y) >>= fun d => (.ok []) >>= fun ds => .ok (d :: ds)) >>= d_q_near) >>= fun x => (((.ok .non) >>= fun d => ((.ok (.int 0)) >>= fun d => (((.ok []) >>= lstD) >>= fun d => ((.ok (.str "0")) >>= fun d => (((((.ok (.int 1)) >>= negD) >>= fun d => (.ok []) >>= fun ds => .ok (d :: ds)) >>= tupD) >>= fun d => ((((.ok (.int 99)) >>= fun d => ((.ok (.int 0)) >>= fun d => (.ok []) >>= fun ds => .ok (d :: ds)) >>= fun ds => .ok (d :: ds)) >>= tupD) >>= fun d => (.ok []) >>= fun ds => .ok (d :: ds)) >>= fun ds => .ok (d :: ds)) >>= fun ds => .ok (d :: ds)) >>= fun ds => .ok (d :: ds)) >>= fun ds => .ok (d :: ds)) >>= fun ds => .ok (d :: ds)) >>= lstD) >>= fun y => addD x y) r fun d => .nx (r.set 19 (.sh d))
def law_s20 : Env → Oc := fun r => lift (((getS 18 r) >>= fun d => ((getS 5 r) >>= fun d => (((getS 19 r) >>= fun x => ((((getS 0 r) >>= fun d => ((.ok (.int 3)) >>= fun d => (.ok []) >>= fun ds => .ok (d :: ds)) >>= fun ds => .ok (d :: ds)) >>= d_q_cell) >>= fun x => (((getS 19 r) >>= fun d => (.ok []) >>= fun ds => .ok (d :: ds)) >>= one lenD) >>= fun y => modD x y) >>= fun y => ixD x y) >>= fun d => (.ok []) >>= fun ds => .ok (d :: ds)) >>= fun ds => .ok (d :: ds)) >>= fun ds => .ok (d :: ds)) >>= d_q_refused) r fun d => .rt d
def e_law : Env → Oc := fun r => (law_s1 r).seq fun r => ((law_s2 r).seq fun r => ((law_s3 r).seq fun r => ((law_s4 r).seq fun r => ((law_s5 r).seq fun r => ((law_s6 r).seq fun r => ((law_s7 r).seq fun r => ((law_s8 r).seq fun r => ((law_s9 r).seq fun r => ((law_s10 r).seq fun r => ((law_s11 r).seq fun r => ((law_s12 r).seq fun r => ((law_s13 r).seq fun r => ((law_s14 r).seq fun r => ((law_s15 r).seq fun r => ((law_s16 r).seq fun r => ((law_s17 r).seq fun r => ((law_s18 r).seq fun r => ((law_s19 r).seq fun r => (law_s20 r)))))))))))))))))))
def d_law : List D → Res D := runD 1 N_law.length e_law
structure Txt (P : Program) (w : World) (K : PySem.W.Frag) (mg : Str → Option Value) (base : Heap) : Prop where
  zz : True
  n_len : mg "len" = none
  n_range : mg "range" = none
  n_tuple : mg "tuple" = none
  n_zip : mg "zip" = none
  n_enumerate : mg "enumerate" = none
  c_Rounds : mg (cname 0) = some (.ref ((⟨P, w, K, mg⟩ : GC).ca 0))
  n_isinstance : mg "isinstance" = none
  n_list : mg "list" = none
  g_MOST_ROUNDS : ∃ t, mg "MOST_ROUNDS" = some (.int 7 t)
  n_int : mg "int" = none
  n_bool : mg "bool" = none
  g_MOST_ELEMENTS : ∃ t, mg "MOST_ELEMENTS" = some (.int 144 t)
  c_NoRounds : mg (cname 11) = some (.ref ((⟨P, w, K, mg⟩ : GC).ca 11))
  e_NoRounds : ExM0 K mg ((⟨P, w, K, mg⟩ : GC).ca 11) 11
  f_rounds : FldM K (⟨P, w, K, mg⟩ : GC).ca "rounds" (plOf [0] "rounds")
  cl_Rounds_rounds : ClM K (⟨P, w, K, mg⟩ : GC).ca "rounds" 0
  c_Tower : mg (cname 1) = some (.ref ((⟨P, w, K, mg⟩ : GC).ca 1))
  f_lower : FldM K (⟨P, w, K, mg⟩ : GC).ca "lower" (plOf [2] "lower")
  f_upper : FldM K (⟨P, w, K, mg⟩ : GC).ca "upper" (plOf [2] "upper")
  f_table : FldM K (⟨P, w, K, mg⟩ : GC).ca "table" (plOf [1] "table")
  c_NoElement : mg (cname 12) = some (.ref ((⟨P, w, K, mg⟩ : GC).ca 12))
  e_NoElement : ExM0 K mg ((⟨P, w, K, mg⟩ : GC).ca 12) 12
  f_kept : FldM K (⟨P, w, K, mg⟩ : GC).ca "kept" (plOf [2] "kept")
  c_NoTower : mg (cname 24) = some (.ref ((⟨P, w, K, mg⟩ : GC).ca 24))
  e_NoTower : ExMA P w K mg base ((⟨P, w, K, mg⟩ : GC).ca 24) 24
  cl_Tower_table : ClM K (⟨P, w, K, mg⟩ : GC).ca "table" 1
  f_ground : FldM K (⟨P, w, K, mg⟩ : GC).ca "ground" (plOf [1] "ground")
  cl_Tower_ground : ClM K (⟨P, w, K, mg⟩ : GC).ca "ground" 1
  c_Table : mg (cname 2) = some (.ref ((⟨P, w, K, mg⟩ : GC).ca 2))
  g_MOST_LOWER : ∃ t, mg "MOST_LOWER" = some (.int 16 t)
  c_NoLower : mg (cname 13) = some (.ref ((⟨P, w, K, mg⟩ : GC).ca 13))
  e_NoLower : ExM0 K mg ((⟨P, w, K, mg⟩ : GC).ca 13) 13
  g_MOST_UPPER : ∃ t, mg "MOST_UPPER" = some (.int 9 t)
  c_NoUpper : mg (cname 14) = some (.ref ((⟨P, w, K, mg⟩ : GC).ca 14))
  e_NoUpper : ExM0 K mg ((⟨P, w, K, mg⟩ : GC).ca 14) 14
  cl_Table_lower : ClM K (⟨P, w, K, mg⟩ : GC).ca "lower" 2
  cl_Table_upper : ClM K (⟨P, w, K, mg⟩ : GC).ca "upper" 2
  cl_Table_kept : ClM K (⟨P, w, K, mg⟩ : GC).ca "kept" 2
  c_NoCarry : mg (cname 23) = some (.ref ((⟨P, w, K, mg⟩ : GC).ca 23))
  e_NoCarry : ExMA P w K mg base ((⟨P, w, K, mg⟩ : GC).ca 23) 23
  n_dict : mg "dict" = none
  n_sorted : mg "sorted" = none
  n_max : mg "max" = none
  c_CarryError : mg (cname 10) = some (.ref ((⟨P, w, K, mg⟩ : GC).ca 10))
  isM : IsM K (⟨P, w, K, mg⟩ : GC).ca isC isU
  ctM : CtM K (⟨P, w, K, mg⟩ : GC).ca ctC ctU
section
variable {P : Program} {w : World} {K : PySem.W.Frag} {mg : Str → Option Value} {base : Heap}
theorem b_q_cell (T : Txt P w K mg base) {f : Addr} (cdv : Value) (A : Around) (outer : List PySem.Env) (s : Shared) (H : Hp) (E : XK) (hr : Room 0 (A.deeper (envOfC "_law_cell" (defScope s_q_cell) s.heap.objs.size f cdv))) :
    RSs (cxOf (L2.CX P w) P w K mg base N_q_cell "_law_cell" (defScope s_q_cell) f cdv A outer s H E) (WD E) .S (defBody s_q_cell) e_q_cell :=
  rss_cons (rs_set 2 sc_q_cell.nd (re_sub (re_rd (re_blt (b_len T.n_len) (rar_cons (re_rd (re_var 0)) (rar_nil)))) (re_rd (re_int))))
    (rss_cons (rs_if (rt_pw (rw_and (rt_cp (c_gt) (re_rd (re_var 2)) (re_rd (re_int))) (rw_and1 (rt_cp (c_eq hr) (re_rd (re_mod (re_rd (re_ix hr (re_rd (re_var 0)) (re_rd (re_int)))) (re_rd (re_int)))) (re_rd (re_int))))))
    (rss_one (rs_ret (re_mod (re_rd (re_shr (re_rd (re_ix hr (re_rd (re_var 0)) (re_rd (re_add (re_rd (re_int)) (re_rd (re_mod (re_rd (re_var 1)) (re_rd (re_var 2)))))))) (re_rd (re_mul (re_rd (re_int)) (re_rd (re_div (re_rd (re_var 1)) (re_rd (re_var 2)))))))) (re_rd (re_int)))))
    (rss_nil))
    (rss_cons (rs_set 3 sc_q_cell.nd (re_int))
    (rss_cons (rs_if (rt_cp (c_gt) (re_rd (re_blt (b_len T.n_len) (rar_cons (re_rd (re_var 0)) (rar_nil)))) (re_rd (re_int)))
    (rss_one (rs_set 3 sc_q_cell.nd (re_mod (re_rd (re_ix hr (re_rd (re_var 0)) (re_rd (re_mod (re_rd (re_var 1)) (re_rd (re_blt (b_len T.n_len) (rar_cons (re_rd (re_var 0)) (rar_nil)))))))) (re_rd (re_pow (re_rd (re_int)) (re_rd (re_int)))))))
    (rss_nil))
    (rss_one (rs_ret (re_mod (re_rd (re_mul (re_rd (re_mod (re_rd (re_add (re_rd (re_mul (re_rd (re_var 3)) (re_rd (re_int)))) (re_rd (re_mul (re_rd (re_int)) (re_rd (re_var 1)))))) (re_rd (re_int)))) (re_rd (re_int)))) (re_rd (re_int))))))))
theorem b_q_elements (T : Txt P w K mg base) {f : Addr} (cdv : Value) (A : Around) (outer : List PySem.Env) (s : Shared) (H : Hp) (E : XK) (hr : Room 0 (A.deeper (envOfC "_law_elements" (defScope s_q_elements) s.heap.objs.size f cdv))) :
    RSs (cxOf (L2.CX P w) P w K mg base N_q_elements "_law_elements" (defScope s_q_elements) f cdv A outer s H E) (WD E) .S (defBody s_q_elements) e_q_elements :=
  rss_cons (rs_set 1 sc_q_elements.nd (re_share (re_lst (ra_cons (re_tup (ra_nil)) (ra_nil)))))
    (rss_cons (rs_for (passes_of rfl) rfl (by exact (re_iter (re_var 0))) (by exact (gN 2 sc_q_elements.nd))
    (by exact (rss_cons (rs_setO 3 sc_q_elements.nd (re_lst (ra_nil)))
    (rss_cons (rs_for (passes_of rfl) rfl (by exact (re_iter (re_var 1))) (by exact (gN 4 sc_q_elements.nd))
    (by exact (rss_one (rs_extend 3 (re_share (re_lc [("_law_here", 5)] rfl sc_q_elements.nd (ri_range1 (b := true) T.n_range (rar_cons (re_rd (re_var 2)) (rar_nil))) (blkOk_by (N := N_q_elements) (sc := defScope s_q_elements) (by decide +kernel)) (fun _ _ _ _ _ _ => by exact (gN 5 sc_q_elements.nd)) (fun _ _ _ _ _ => by exact (rts_nil)) (fun _ _ _ _ _ => by exact (re_add (re_rd (re_var 4)) (re_rd (re_tup (ra_cons (re_var 5) (ra_nil))))))))))))
    (rss_one (rs_frz 3 (rs_set 1 sc_q_elements.nd (re_var 3))))))))
    (rss_one (rs_ret (re_var 1))))
theorem b_q_all_r0 (T : Txt P w K mg base) (M_q_elements : FnM P w K mg base 1 "_law_elements" .S d_q_elements) {f : Addr} (cdv : Value) (A : Around) (outer : List PySem.Env) (s : Shared) (H : Hp) (E : XK) (hr : Room 1 (A.deeper (envOfC "_law_all" (defScope s_q_all) s.heap.objs.size f cdv))) :
    RSs (cxOf (L2.CX P w) P w K mg base N_q_all "_law_all" (defScope s_q_all) f cdv A outer s H E) (WD E) .S (defBody s_q_all) e_q_all_r0 :=
  rss_cons (rs_if (rt_cp (c_eq hr) (re_rd (re_blt (b_len T.n_len) (rar_cons (re_rd (re_var 0)) (rar_nil)))) (re_rd (re_int)))
    (rss_one (rs_ret (re_call M_q_elements (hr.mono (by decide)) (takes_of rfl rfl rfl rfl) (ra_cons (re_ix hr (re_rd (re_var 0)) (re_rd (re_int))) (ra_nil)))))
    (rss_nil))
    (rss_cons (rs_setO 1 sc_q_all.nd (re_lst (ra_nil)))
    (rss_cons (rs_for (passes_of rfl) rfl (by exact (re_iter (re_never))) (by exact (gN 2 sc_q_all.nd))
    (by exact (rss_one (rs_extend 1 (re_share (re_lc [("_law_x", 3)] rfl sc_q_all.nd (re_iter (re_call M_q_elements (hr.mono (by decide)) (takes_of rfl rfl rfl rfl) (ra_cons (re_ix hr (re_rd (re_var 0)) (re_rd (re_int))) (ra_nil)))) (blkOk_by (N := N_q_all) (sc := defScope s_q_all) (by decide +kernel)) (fun _ _ _ _ _ _ => by exact (gN 3 sc_q_all.nd)) (fun _ _ _ _ _ => by exact (rts_nil)) (fun _ _ _ _ _ => by exact (re_tup (ra_cons (re_var 2) (ra_cons (re_var 3) (ra_nil)))))))))))
    (rss_one (rs_frz 1 (rs_ret (re_var 1))))))
theorem b_q_all_r1 (T : Txt P w K mg base) (M_q_elements : FnM P w K mg base 1 "_law_elements" .S d_q_elements) (M_q_all_r0 : FnM P w K mg base 2 "_law_all" .S d_q_all_r0) {f : Addr} (cdv : Value) (A : Around) (outer : List PySem.Env) (s : Shared) (H : Hp) (E : XK) (hr : Room 2 (A.deeper (envOfC "_law_all" (defScope s_q_all) s.heap.objs.size f cdv))) :
    RSs (cxOf (L2.CX P w) P w K mg base N_q_all "_law_all" (defScope s_q_all) f cdv A outer s H E) (WD E) .S (defBody s_q_all) e_q_all_r1 :=
  rss_cons (rs_if (rt_cp (c_eq hr) (re_rd (re_blt (b_len T.n_len) (rar_cons (re_rd (re_var 0)) (rar_nil)))) (re_rd (re_int)))
    (rss_one (rs_ret (re_call M_q_elements (hr.mono (by decide)) (takes_of rfl rfl rfl rfl) (ra_cons (re_ix hr (re_rd (re_var 0)) (re_rd (re_int))) (ra_nil)))))
    (rss_nil))
    (rss_cons (rs_setO 1 sc_q_all.nd (re_lst (ra_nil)))
    (rss_cons (rs_for (passes_of rfl) rfl (by exact (re_iter (re_call M_q_all_r0 (hr.mono (by decide)) (takes_of rfl rfl rfl rfl) (ra_cons (re_ix hr (re_rd (re_var 0)) (re_rd (re_int))) (ra_nil))))) (by exact (gN 2 sc_q_all.nd))
    (by exact (rss_one (rs_extend 1 (re_share (re_lc [("_law_x", 3)] rfl sc_q_all.nd (re_iter (re_call M_q_elements (hr.mono (by decide)) (takes_of rfl rfl rfl rfl) (ra_cons (re_ix hr (re_rd (re_var 0)) (re_rd (re_int))) (ra_nil)))) (blkOk_by (N := N_q_all) (sc := defScope s_q_all) (by decide +kernel)) (fun _ _ _ _ _ _ => by exact (gN 3 sc_q_all.nd)) (fun _ _ _ _ _ => by exact (rts_nil)) (fun _ _ _ _ _ => by exact (re_tup (ra_cons (re_var 2) (ra_cons (re_var 3) (ra_nil)))))))))))
    (rss_one (rs_frz 1 (rs_ret (re_var 1))))))
theorem b_q_all (T : Txt P w K mg base) (M_q_elements : FnM P w K mg base 1 "_law_elements" .S d_q_elements) (M_q_all_r1 : FnM P w K mg base 3 "_law_all" .S d_q_all_r1) {f : Addr} (cdv : Value) (A : Around) (outer : List PySem.Env) (s : Shared) (H : Hp) (E : XK) (hr : Room 3 (A.deeper (envOfC "_law_all" (defScope s_q_all) s.heap.objs.size f cdv))) :
    RSs (cxOf (L2.CX P w) P w K mg base N_q_all "_law_all" (defScope s_q_all) f cdv A outer s H E) (WD E) .S (defBody s_q_all) e_q_all :=
  rss_cons (rs_if (rt_cp (c_eq hr) (re_rd (re_blt (b_len T.n_len) (rar_cons (re_rd (re_var 0)) (rar_nil)))) (re_rd (re_int)))
    (rss_one (rs_ret (re_call M_q_elements (hr.mono (by decide)) (takes_of rfl rfl rfl rfl) (ra_cons (re_ix hr (re_rd (re_var 0)) (re_rd (re_int))) (ra_nil)))))
    (rss_nil))
    (rss_cons (rs_setO 1 sc_q_all.nd (re_lst (ra_nil)))
    (rss_cons (rs_for (passes_of rfl) rfl (by exact (re_iter (re_call M_q_all_r1 (hr.mono (by decide)) (takes_of rfl rfl rfl rfl) (ra_cons (re_ix hr (re_rd (re_var 0)) (re_rd (re_int))) (ra_nil))))) (by exact (gN 2 sc_q_all.nd))
    (by exact (rss_one (rs_extend 1 (re_share (re_lc [("_law_x", 3)] rfl sc_q_all.nd (re_iter (re_call M_q_elements (hr.mono (by decide)) (takes_of rfl rfl rfl rfl) (ra_cons (re_ix hr (re_rd (re_var 0)) (re_rd (re_int))) (ra_nil)))) (blkOk_by (N := N_q_all) (sc := defScope s_q_all) (by decide +kernel)) (fun _ _ _ _ _ _ => by exact (gN 3 sc_q_all.nd)) (fun _ _ _ _ _ => by exact (rts_nil)) (fun _ _ _ _ _ => by exact (re_tup (ra_cons (re_var 2) (ra_cons (re_var 3) (ra_nil)))))))))))
    (rss_one (rs_frz 1 (rs_ret (re_var 1))))))
theorem b_q_plus (T : Txt P w K mg base) {f : Addr} (cdv : Value) (A : Around) (outer : List PySem.Env) (s : Shared) (H : Hp) (E : XK) (hr : Room 0 (A.deeper (envOfC "_law_plus" (defScope s_q_plus) s.heap.objs.size f cdv))) :
    RSs (cxOf (L2.CX P w) P w K mg base N_q_plus "_law_plus" (defScope s_q_plus) f cdv A outer s H E) (WD E) .S (defBody s_q_plus) e_q_plus :=
  rss_one (rs_ret (re_blt (b_tuple T.n_tuple) (rar_cons (re_rd (re_lc [("_law_one", 3), ("_law_other", 4), ("_law_number", 5)] rfl sc_q_plus.nd (ri_zip3 T.n_zip (ra_cons (re_var 1) (ra_cons (re_var 2) (ra_cons (re_var 0) (ra_nil))))) (blkOk_by (N := N_q_plus) (sc := defScope s_q_plus) (by decide +kernel)) (fun _ _ _ _ _ _ => by exact (gT 3 rfl (gsc (gN 3 sc_q_plus.nd) (gsc (gN 4 sc_q_plus.nd) (gsc (gN 5 sc_q_plus.nd) (gs0)))))) (fun _ _ _ _ _ => by exact (rts_nil)) (fun _ _ _ _ _ => by exact (re_mod (re_rd (re_add (re_rd (re_var 3)) (re_rd (re_var 4)))) (re_rd (re_var 5)))))) (rar_nil))))
theorem b_q_put_r0 (T : Txt P w K mg base) (M_q_plus : FnM P w K mg base 1 "_law_plus" .S d_q_plus) {f : Addr} (cdv : Value) (A : Around) (outer : List PySem.Env) (s : Shared) (H : Hp) (E : XK) (hr : Room 1 (A.deeper (envOfC "_law_put" (defScope s_q_put) s.heap.objs.size f cdv))) :
    RSs (cxOf (L2.CX P w) P w K mg base N_q_put "_law_put" (defScope s_q_put) f cdv A outer s H E) (WD E) .S (defBody s_q_put) e_q_put_r0 :=
  rss_cons (rs_if (rt_cp (c_eq hr) (re_rd (re_blt (b_len T.n_len) (rar_cons (re_rd (re_var 0)) (rar_nil)))) (re_rd (re_int)))
    (rss_one (rs_ret (re_call M_q_plus (hr.mono (by decide)) (takes_of rfl rfl rfl rfl) (ra_cons (re_ix hr (re_rd (re_var 0)) (re_rd (re_int))) (ra_cons (re_var 1) (ra_cons (re_var 2) (ra_nil)))))))
    (rss_nil))
    (rss_cons (rs_asg (re_var 0) (gT 3 rfl (gsc (gN 3 sc_q_put.nd) (gsc (gN 4 sc_q_put.nd) (gsc (gN 5 sc_q_put.nd) (gs0))))))
    (rss_one (rs_ret (re_tup (ra_cons (re_never) (ra_cons (re_call M_q_plus (hr.mono (by decide)) (takes_of rfl rfl rfl rfl) (ra_cons (re_var 4) (ra_cons (re_ix hr (re_rd (re_var 1)) (re_rd (re_int))) (ra_cons (re_ix hr (re_rd (re_var 2)) (re_rd (re_int))) (ra_nil))))) (ra_nil)))))))
theorem b_q_put_r1 (T : Txt P w K mg base) (M_q_plus : FnM P w K mg base 1 "_law_plus" .S d_q_plus) (M_q_put_r0 : FnM P w K mg base 2 "_law_put" .S d_q_put_r0) {f : Addr} (cdv : Value) (A : Around) (outer : List PySem.Env) (s : Shared) (H : Hp) (E : XK) (hr : Room 2 (A.deeper (envOfC "_law_put" (defScope s_q_put) s.heap.objs.size f cdv))) :
    RSs (cxOf (L2.CX P w) P w K mg base N_q_put "_law_put" (defScope s_q_put) f cdv A outer s H E) (WD E) .S (defBody s_q_put) e_q_put_r1 :=
  rss_cons (rs_if (rt_cp (c_eq hr) (re_rd (re_blt (b_len T.n_len) (rar_cons (re_rd (re_var 0)) (rar_nil)))) (re_rd (re_int)))
    (rss_one (rs_ret (re_call M_q_plus (hr.mono (by decide)) (takes_of rfl rfl rfl rfl) (ra_cons (re_ix hr (re_rd (re_var 0)) (re_rd (re_int))) (ra_cons (re_var 1) (ra_cons (re_var 2) (ra_nil)))))))
    (rss_nil))
    (rss_cons (rs_asg (re_var 0) (gT 3 rfl (gsc (gN 3 sc_q_put.nd) (gsc (gN 4 sc_q_put.nd) (gsc (gN 5 sc_q_put.nd) (gs0))))))
    (rss_one (rs_ret (re_tup (ra_cons (re_call M_q_put_r0 (hr.mono (by decide)) (takes_of rfl rfl rfl rfl) (ra_cons (re_var 3) (ra_cons (re_call M_q_put_r0 (hr.mono (by decide)) (takes_of rfl rfl rfl rfl) (ra_cons (re_var 3) (ra_cons (re_ix hr (re_rd (re_var 1)) (re_rd (re_int))) (ra_cons (re_ix hr (re_rd (re_var 2)) (re_rd (re_int))) (ra_nil))))) (ra_cons (re_ix hr (re_rd (re_var 5)) (re_rd (re_tup (ra_cons (re_ix hr (re_rd (re_var 1)) (re_rd (re_int))) (ra_cons (re_ix hr (re_rd (re_var 2)) (re_rd (re_int))) (ra_nil)))))) (ra_nil))))) (ra_cons (re_call M_q_plus (hr.mono (by decide)) (takes_of rfl rfl rfl rfl) (ra_cons (re_var 4) (ra_cons (re_ix hr (re_rd (re_var 1)) (re_rd (re_int))) (ra_cons (re_ix hr (re_rd (re_var 2)) (re_rd (re_int))) (ra_nil))))) (ra_nil)))))))
theorem b_q_put (T : Txt P w K mg base) (M_q_plus : FnM P w K mg base 1 "_law_plus" .S d_q_plus) (M_q_put_r1 : FnM P w K mg base 3 "_law_put" .S d_q_put_r1) {f : Addr} (cdv : Value) (A : Around) (outer : List PySem.Env) (s : Shared) (H : Hp) (E : XK) (hr : Room 3 (A.deeper (envOfC "_law_put" (defScope s_q_put) s.heap.objs.size f cdv))) :
    RSs (cxOf (L2.CX P w) P w K mg base N_q_put "_law_put" (defScope s_q_put) f cdv A outer s H E) (WD E) .S (defBody s_q_put) e_q_put :=
  rss_cons (rs_if (rt_cp (c_eq hr) (re_rd (re_blt (b_len T.n_len) (rar_cons (re_rd (re_var 0)) (rar_nil)))) (re_rd (re_int)))
    (rss_one (rs_ret (re_call M_q_plus (hr.mono (by decide)) (takes_of rfl rfl rfl rfl) (ra_cons (re_ix hr (re_rd (re_var 0)) (re_rd (re_int))) (ra_cons (re_var 1) (ra_cons (re_var 2) (ra_nil)))))))
    (rss_nil))
    (rss_cons (rs_asg (re_var 0) (gT 3 rfl (gsc (gN 3 sc_q_put.nd) (gsc (gN 4 sc_q_put.nd) (gsc (gN 5 sc_q_put.nd) (gs0))))))
    (rss_one (rs_ret (re_tup (ra_cons (re_call M_q_put_r1 (hr.mono (by decide)) (takes_of rfl rfl rfl rfl) (ra_cons (re_var 3) (ra_cons (re_call M_q_put_r1 (hr.mono (by decide)) (takes_of rfl rfl rfl rfl) (ra_cons (re_var 3) (ra_cons (re_ix hr (re_rd (re_var 1)) (re_rd (re_int))) (ra_cons (re_ix hr (re_rd (re_var 2)) (re_rd (re_int))) (ra_nil))))) (ra_cons (re_ix hr (re_rd (re_var 5)) (re_rd (re_tup (ra_cons (re_ix hr (re_rd (re_var 1)) (re_rd (re_int))) (ra_cons (re_ix hr (re_rd (re_var 2)) (re_rd (re_int))) (ra_nil)))))) (ra_nil))))) (ra_cons (re_call M_q_plus (hr.mono (by decide)) (takes_of rfl rfl rfl rfl) (ra_cons (re_var 4) (ra_cons (re_ix hr (re_rd (re_var 1)) (re_rd (re_int))) (ra_cons (re_ix hr (re_rd (re_var 2)) (re_rd (re_int))) (ra_nil))))) (ra_nil)))))))
theorem b_q_zero (T : Txt P w K mg base) (M_q_all : FnM P w K mg base 4 "_law_all" .S d_q_all) (M_q_put : FnM P w K mg base 4 "_law_put" .S d_q_put) {f : Addr} (cdv : Value) (A : Around) (outer : List PySem.Env) (s : Shared) (H : Hp) (E : XK) (hr : Room 4 (A.deeper (envOfC "_law_zero" (defScope s_q_zero) s.heap.objs.size f cdv))) :
    RSs (cxOf (L2.CX P w) P w K mg base N_q_zero "_law_zero" (defScope s_q_zero) f cdv A outer s H E) (WD E) .S (defBody s_q_zero) e_q_zero :=
  rss_one (rs_ret (re_ix hr (re_rd (re_lc [("_law_x", 1)] rfl sc_q_zero.nd (re_iter (re_call M_q_all (hr.mono (by decide)) (takes_of rfl rfl rfl rfl) (ra_cons (re_var 0) (ra_nil)))) (blkOk_by (N := N_q_zero) (sc := defScope s_q_zero) (by decide +kernel)) (fun _ _ _ _ _ _ => by exact (gN 1 sc_q_zero.nd)) (fun _ _ _ _ _ => by exact (rts_one (rt_cp (c_eq hr) (re_rd (re_call M_q_put (hr.mono (by decide)) (takes0) (ra_cons (re_var 0) (ra_cons (re_var 1) (ra_cons (re_var 1) (ra_nil)))))) (re_rd (re_var 1))))) (fun _ _ _ _ _ => by exact (re_var 1)))) (re_rd (re_int))))
theorem b_q_backs (T : Txt P w K mg base) (M_q_zero : FnM P w K mg base 5 "_law_zero" .S d_q_zero) (M_q_all : FnM P w K mg base 4 "_law_all" .S d_q_all) (M_q_put : FnM P w K mg base 4 "_law_put" .S d_q_put) {f : Addr} (cdv : Value) (A : Around) (outer : List PySem.Env) (s : Shared) (H : Hp) (E : XK) (hr : Room 5 (A.deeper (envOfC "_law_backs" (defScope s_q_backs) s.heap.objs.size f cdv))) :
    RSs (cxOf (L2.CX P w) P w K mg base N_q_backs "_law_backs" (defScope s_q_backs) f cdv A outer s H E) (WD E) .S (defBody s_q_backs) e_q_backs :=
  rss_cons (rs_set 1 sc_q_backs.nd (re_call M_q_zero (hr.mono (by decide)) (takes_of rfl rfl rfl rfl) (ra_cons (re_var 0) (ra_nil))))
    (rss_cons (rs_setO 2 sc_q_backs.nd (re_dic0))
    (rss_cons (rs_for (passes_of rfl) rfl (by exact (re_iter (re_call M_q_all (hr.mono (by decide)) (takes_of rfl rfl rfl rfl) (ra_cons (re_var 0) (ra_nil))))) (by exact (gN 3 sc_q_backs.nd))
    (by exact (rss_cons (rs_set 4 sc_q_backs.nd (re_var 3))
    (rss_cons (rs_loop (passes_of rfl) (by exact (rt_pw (rw_and (rt_cp (c_ne hr) (re_rd (re_call M_q_put (hr.mono (by decide)) (takes_of rfl rfl rfl rfl) (ra_cons (re_var 0) (ra_cons (re_var 4) (ra_cons (re_var 3) (ra_nil)))))) (re_rd (re_var 1))) (rw_and1 (rt_cp (c_ne hr) (re_rd (re_var 3)) (re_rd (re_var 1))))))) (by exact (rss_one (rs_set 4 sc_q_backs.nd (re_call M_q_put (hr.mono (by decide)) (takes_of rfl rfl rfl rfl) (ra_cons (re_var 0) (ra_cons (re_var 4) (ra_cons (re_var 3) (ra_nil)))))))))
    (rss_one (rs_setItem 2 hr (re_var 4) (re_rd (re_var 3))))))))
    (rss_one (rs_frz 2 (rs_ret (re_var 2))))))
theorem b_q_laid (T : Txt P w K mg base) (M_q_all : FnM P w K mg base 4 "_law_all" .S d_q_all) (M_q_backs : FnM P w K mg base 6 "_law_backs" .S d_q_backs) (M_q_cell : FnM P w K mg base 1 "_law_cell" .S d_q_cell) (M_q_elements : FnM P w K mg base 1 "_law_elements" .S d_q_elements) (M_q_zero : FnM P w K mg base 5 "_law_zero" .S d_q_zero) (M_q_put : FnM P w K mg base 4 "_law_put" .S d_q_put) (M_q_plus : FnM P w K mg base 1 "_law_plus" .S d_q_plus) {f : Addr} (cdv : Value) (A : Around) (outer : List PySem.Env) (s : Shared) (H : Hp) (E : XK) (hr : Room 6 (A.deeper (envOfC "_law_laid" (defScope s_q_laid) s.heap.objs.size f cdv))) :
    RSs (cxOf (L2.CX P w) P w K mg base N_q_laid "_law_laid" (defScope s_q_laid) f cdv A outer s H E) (WD E) .S (defBody s_q_laid) e_q_laid :=
  rss_cons (rs_set 4 sc_q_laid.nd (re_call M_q_all (hr.mono (by decide)) (takes_of rfl rfl rfl rfl) (ra_cons (re_var 0) (ra_nil))))
    (rss_cons (rs_set 5 sc_q_laid.nd (re_call M_q_backs (hr.mono (by decide)) (takes_of rfl rfl rfl rfl) (ra_cons (re_var 0) (ra_nil))))
    (rss_cons (rs_shareLc 6 (rs_setLc 6 [("_law_i", 13)] rfl sc_q_laid.nd (ri_range1 (b := true) T.n_range (rar_cons (re_rd (re_blt (b_len T.n_len) (rar_cons (re_rd (re_var 1)) (rar_nil)))) (rar_nil))) (blkOk_by (N := N_q_laid) (sc := defScope s_q_laid) (by decide +kernel)) (fun _ _ _ _ _ _ => by exact (gN 13 sc_q_laid.nd)) (fun _ _ _ _ _ => by exact (rts_nil)) (fun _ _ _ _ _ => by exact (re_ix hr (re_rd (re_var 4)) (re_rd (re_mod (re_rd (re_div (re_rd (re_call M_q_cell (hr.mono (by decide)) (takes0) (ra_cons (re_var 2) (ra_cons (re_add (re_rd (re_var 3)) (re_rd (re_mul (re_rd (re_int)) (re_rd (re_var 13))))) (ra_nil))))) (re_rd (re_int)))) (re_rd (re_blt (b_len T.n_len) (rar_cons (re_rd (re_var 4)) (rar_nil))))))))))
    (rss_cons (rs_setO 7 sc_q_laid.nd (re_dic0))
    (rss_cons (rs_for (passes_of rfl) rfl (by exact (ri_enumS T.n_enumerate (ra_cons (re_call M_q_elements (hr.mono (by decide)) (takes_of rfl rfl rfl rfl) (ra_cons (re_var 1) (ra_nil))) (ra_nil)))) (by exact (gT 2 rfl (gsc (gN 8 sc_q_laid.nd) (gsc (gN 9 sc_q_laid.nd) (gs0)))))
    (by exact (rss_cons (rs_setItem 7 hr (re_call M_q_zero (hr.mono (by decide)) (takes_of rfl rfl rfl rfl) (ra_cons (re_var 0) (ra_nil))) (re_rd (re_var 9)))
    (rss_one (rs_if (rt_cp (c_gt) (re_rd (re_mod (re_rd (re_call M_q_cell (hr.mono (by decide)) (takes_of rfl rfl rfl rfl) (ra_cons (re_var 2) (ra_cons (re_add (re_rd (re_var 3)) (re_rd (re_int))) (ra_nil))))) (re_rd (re_int)))) (re_rd (re_int)))
    (rss_one (rs_setItem 7 hr (re_ix hr (re_rd (re_var 4)) (re_rd (re_mod (re_rd (re_div (re_rd (re_call M_q_cell (hr.mono (by decide)) (takes_of rfl rfl rfl rfl) (ra_cons (re_var 2) (ra_cons (re_add (re_rd (re_add (re_rd (re_var 3)) (re_rd (re_int)))) (re_rd (re_mul (re_rd (re_int)) (re_rd (re_var 8))))) (ra_nil))))) (re_rd (re_int)))) (re_rd (re_blt (b_len T.n_len) (rar_cons (re_rd (re_var 4)) (rar_nil))))))) (re_rd (re_var 9))))
    (rss_nil))))))
    (rss_cons (rs_setO 10 sc_q_laid.nd (re_dic0))
    (rss_cons (rs_for (passes_of rfl) rfl (by exact (re_iter (re_call M_q_elements (hr.mono (by decide)) (takes_of rfl rfl rfl rfl) (ra_cons (re_var 1) (ra_nil))))) (by exact (gN 9 sc_q_laid.nd))
    (by exact (rss_one (rs_for (passes_of rfl) rfl (by exact (re_iter (re_call M_q_elements (hr.mono (by decide)) (takes_of rfl rfl rfl rfl) (ra_cons (re_var 1) (ra_nil))))) (by exact (gN 11 sc_q_laid.nd))
    (by exact (rss_cons (rs_set 12 sc_q_laid.nd (re_call M_q_put (hr.mono (by decide)) (takes_of rfl rfl rfl rfl) (ra_cons (re_var 0) (ra_cons (re_ix hr (re_varR 7) (re_rd (re_var 9))) (ra_cons (re_ix hr (re_varR 7) (re_rd (re_var 11))) (ra_nil))))))
    (rss_cons (rs_set 12 sc_q_laid.nd (re_call M_q_put (hr.mono (by decide)) (takes_of rfl rfl rfl rfl) (ra_cons (re_var 0) (ra_cons (re_var 12) (ra_cons (re_ix hr (re_rd (re_var 5)) (re_rd (re_ix hr (re_varR 7) (re_rd (re_call M_q_plus (hr.mono (by decide)) (takes_of rfl rfl rfl rfl) (ra_cons (re_var 1) (ra_cons (re_var 9) (ra_cons (re_var 11) (ra_nil))))))))) (ra_nil))))))
    (rss_cons (rs_for (passes_of rfl) rfl (by exact (ri_enumS T.n_enumerate (ra_cons (re_var 1) (ra_nil)))) (by exact (gT 2 rfl (gsc (gN 13 sc_q_laid.nd) (gsc (gN 14 sc_q_laid.nd) (gs0)))))
    (by exact (rss_one (rs_if (rt_cp (c_ge) (re_rd (re_add (re_rd (re_ix hr (re_rd (re_var 9)) (re_rd (re_var 13)))) (re_rd (re_ix hr (re_rd (re_var 11)) (re_rd (re_var 13)))))) (re_rd (re_var 14)))
    (rss_one (rs_set 12 sc_q_laid.nd (re_call M_q_put (hr.mono (by decide)) (takes_of rfl rfl rfl rfl) (ra_cons (re_var 0) (ra_cons (re_var 12) (ra_cons (re_ix hr (re_rd (re_var 6)) (re_rd (re_var 13))) (ra_nil)))))))
    (rss_nil)))))
    (rss_one (rs_setItem 10 hr (re_var 12) (re_rd (re_tup (ra_cons (re_var 9) (ra_cons (re_var 11) (ra_nil)))))))))))))))
    (rss_one (rs_frz 10 (rs_ret (re_tup (ra_cons (re_var 0) (ra_cons (re_var 1) (ra_cons (re_var 10) (ra_nil))))))))))))))
theorem b_is_whole (T : Txt P w K mg base) {f : Addr} (cdv : Value) (A : Around) (outer : List PySem.Env) (s : Shared) (H : Hp) (E : XK) (hr : Room 0 (A.deeper (envOfC "is_whole" (defScope s_is_whole) s.heap.objs.size f cdv))) :
    RSs (cxOf (L2.CX P w) P w K mg base N_is_whole "is_whole" (defScope s_is_whole) f cdv A outer s H E) (WD E) .S (defBody s_is_whole) e_is_whole :=
  rss_one (rs_ret (re_and (re_blt (b_is T.isM T.n_isinstance) (rar_cons (re_rd (re_var 0)) (rar_cons (re_rd (re_ty T.n_int boot_ty_int)) (rar_nil)))) (re_one (re_not (re_blt (b_is T.isM T.n_isinstance) (rar_cons (re_rd (re_var 0)) (rar_cons (re_rd (re_ty T.n_bool boot_ty_bool)) (rar_nil))))))))
theorem b_are_rounds (T : Txt P w K mg base) (M_is_whole : FnM P w K mg base 1 "is_whole" .S d_is_whole) {f : Addr} (cdv : Value) (A : Around) (outer : List PySem.Env) (s : Shared) (H : Hp) (E : XK) (hr : Room 1 (A.deeper (envOfC "are_rounds" (defScope s_are_rounds) s.heap.objs.size f cdv))) :
    RSs (cxOf (L2.CX P w) P w K mg base N_are_rounds "are_rounds" (defScope s_are_rounds) f cdv A outer s H E) (WD E) .S (defBody s_are_rounds) e_are_rounds :=
  rss_cons (rs_if (rt_pw (rw_or (rt_not (rt_val (re_blt (b_is T.isM T.n_isinstance) (rar_cons (re_rd (re_var 0)) (rar_cons (re_rd (re_tup (ra_cons (re_ty T.n_list boot_ty_list) (ra_cons (re_ty T.n_tuple boot_ty_tuple) (ra_nil))))) (rar_nil)))))) (rw_or1 (rt_cp (c_gt) (re_rd (re_blt (b_len T.n_len) (rar_cons (re_rd (re_var 0)) (rar_nil)))) (re_rd (re_gI T.g_MOST_ROUNDS))))))
    (rss_one (rs_ret (re_bl)))
    (rss_nil))
    (rss_cons (rs_set 1 sc_are_rounds.nd (re_int))
    (rss_cons (rs_for (passes_of rfl) rfl (by exact (re_iter (re_var 0))) (by exact (gN 2 sc_are_rounds.nd))
    (by exact (rss_cons (rs_if (rt_pw (rw_or (rt_not (rt_val (re_call M_is_whole (hr.mono (by decide)) (takes_of rfl rfl rfl rfl) (ra_cons (re_var 2) (ra_nil))))) (rw_or (rt_cp (c_lt) (re_rd (re_var 2)) (re_rd (re_int))) (rw_or1 (rt_cp (c_gt) (re_rd (re_var 2)) (re_rd (re_gI T.g_MOST_ELEMENTS)))))))
    (rss_one (rs_ret (re_bl)))
    (rss_nil))
    (rss_one (rs_set 1 sc_are_rounds.nd (re_mul (re_rd (re_var 1)) (re_rd (re_var 2))))))))
    (rss_one (rs_ret (re_cp (c_le) (re_rd (re_var 1)) (re_rd (re_gI T.g_MOST_ELEMENTS)))))))
theorem b_Rounds_init (T : Txt P w K mg base) (M_are_rounds : FnM P w K mg base 2 "are_rounds" .S d_are_rounds) {f : Addr} (cdv : Value) (A : Around) (outer : List PySem.Env) (s : Shared) (H : Hp) (E : XK) (x : Addr) (hr : Room 2 (A.deeper (envOfC "Rounds.__init__" (defScope s_Rounds_init) s.heap.objs.size f cdv))) :
    RSs (cxOf (L2.CX P w) P w K mg base N_Rounds_init "Rounds.__init__" (defScope s_Rounds_init) f cdv A outer s H E) (WI x E) .S (defBody s_Rounds_init) e_Rounds_init :=
  rss_cons (rs_if (rt_not (rt_val (re_call M_are_rounds (hr.mono (by decide)) (takes_of rfl rfl rfl rfl) (ra_cons (re_var 1) (ra_nil)))))
    (rss_one (rs_raise0 T.e_NoRounds rfl (takes_of rfl rfl rfl rfl)))
    (rss_nil))
    (rss_one (rs_fldS 0 0 T.cl_Rounds_rounds (re_blt (b_tuple T.n_tuple) (rar_cons (re_rd (re_var 1)) (rar_nil)))))
theorem b_Rounds_members (T : Txt P w K mg base) {f : Addr} (cdv : Value) (A : Around) (outer : List PySem.Env) (s : Shared) (H : Hp) (E : XK) (hr : Room 0 (A.deeper (envOfC "Rounds.members" (defScope s_Rounds_members) s.heap.objs.size f cdv))) :
    RSs (cxOf (L2.CX P w) P w K mg base N_Rounds_members "Rounds.members" (defScope s_Rounds_members) f cdv A outer s H E) (WD E) .S (defBody s_Rounds_members) e_Rounds_members :=
  rss_cons (rs_set 1 sc_Rounds_members.nd (re_share (re_lst (ra_cons (re_tup (ra_nil)) (ra_nil)))))
    (rss_cons (rs_for (passes_of rfl) rfl (by exact (re_iter (re_fld T.f_rounds (re_var 0)))) (by exact (gN 2 sc_Rounds_members.nd))
    (by exact (rss_cons (rs_setO 3 sc_Rounds_members.nd (re_lst (ra_nil)))
    (rss_cons (rs_for (passes_of rfl) rfl (by exact (re_iter (re_var 1))) (by exact (gN 4 sc_Rounds_members.nd))
    (by exact (rss_one (rs_extend 3 (re_share (re_lc [("here", 5)] rfl sc_Rounds_members.nd (ri_range1 (b := true) T.n_range (rar_cons (re_rd (re_var 2)) (rar_nil))) (blkOk_by (N := N_Rounds_members) (sc := defScope s_Rounds_members) (by decide +kernel)) (fun _ _ _ _ _ _ => by exact (gN 5 sc_Rounds_members.nd)) (fun _ _ _ _ _ => by exact (rts_nil)) (fun _ _ _ _ _ => by exact (re_add (re_rd (re_var 4)) (re_rd (re_tup (ra_cons (re_var 5) (ra_nil))))))))))))
    (rss_one (rs_frz 3 (rs_set 1 sc_Rounds_members.nd (re_var 3))))))))
    (rss_one (rs_ret (re_var 1))))
theorem b_Tower_members (T : Txt P w K mg base) (MT_members : ∀ c g, mt_members c = some g → MtM P w K mg base 1 "members" c .S g) {f : Addr} (cdv : Value) (A : Around) (outer : List PySem.Env) (s : Shared) (H : Hp) (E : XK) (hr : Room 1 (A.deeper (envOfC "Tower.members" (defScope s_Tower_members) s.heap.objs.size f cdv))) :
    RSs (cxOf (L2.CX P w) P w K mg base N_Tower_members "Tower.members" (defScope s_Tower_members) f cdv A outer s H E) (WD E) .S (defBody s_Tower_members) e_Tower_members :=
  rss_cons (rs_setO 1 sc_Tower_members.nd (re_lst (ra_nil)))
    (rss_cons (rs_for (passes_of rfl) rfl (by exact (re_iter (re_meth0 MT_members (hr.mono (by decide)) (takes_of rfl rfl rfl rfl) (re_fld T.f_lower (re_fld T.f_table (re_var 0)))))) (by exact (gN 2 sc_Tower_members.nd))
    (by exact (rss_one (rs_extend 1 (re_share (re_lc [("x", 3)] rfl sc_Tower_members.nd (re_iter (re_meth0 MT_members (hr.mono (by decide)) (takes_of rfl rfl rfl rfl) (re_fld T.f_upper (re_fld T.f_table (re_var 0))))) (blkOk_by (N := N_Tower_members) (sc := defScope s_Tower_members) (by decide +kernel)) (fun _ _ _ _ _ _ => by exact (gN 3 sc_Tower_members.nd)) (fun _ _ _ _ _ => by exact (rts_nil)) (fun _ _ _ _ _ => by exact (re_tup (ra_cons (re_var 2) (ra_cons (re_var 3) (ra_nil)))))))))))
    (rss_one (rs_frz 1 (rs_ret (re_var 1)))))
theorem b_Rounds_has (T : Txt P w K mg base) (M_is_whole : FnM P w K mg base 1 "is_whole" .S d_is_whole) {f : Addr} (cdv : Value) (A : Around) (outer : List PySem.Env) (s : Shared) (H : Hp) (E : XK) (hr : Room 1 (A.deeper (envOfC "Rounds.has" (defScope s_Rounds_has) s.heap.objs.size f cdv))) :
    RSs (cxOf (L2.CX P w) P w K mg base N_Rounds_has "Rounds.has" (defScope s_Rounds_has) f cdv A outer s H E) (WD E) .S (defBody s_Rounds_has) e_Rounds_has :=
  rss_cons (rs_if (rt_pw (rw_or (rt_not (rt_val (re_blt (b_is T.isM T.n_isinstance) (rar_cons (re_rd (re_var 1)) (rar_cons (re_rd (re_ty T.n_tuple boot_ty_tuple)) (rar_nil)))))) (rw_or1 (rt_cp (c_ne hr) (re_rd (re_blt (b_len T.n_len) (rar_cons (re_rd (re_var 1)) (rar_nil)))) (re_rd (re_blt (b_len T.n_len) (rar_cons (re_rd (re_fld T.f_rounds (re_var 0))) (rar_nil))))))))
    (rss_one (rs_ret (re_bl)))
    (rss_nil))
    (rss_cons (rs_for (passes_of rfl) rfl (by exact (ri_zip2 T.n_zip (ra_cons (re_var 1) (ra_cons (re_fld T.f_rounds (re_var 0)) (ra_nil))))) (by exact (gT 2 rfl (gsc (gN 2 sc_Rounds_has.nd) (gsc (gN 3 sc_Rounds_has.nd) (gs0)))))
    (by exact (rss_one (rs_if (rt_pw (rw_or (rt_not (rt_val (re_call M_is_whole (hr.mono (by decide)) (takes_of rfl rfl rfl rfl) (ra_cons (re_var 2) (ra_nil))))) (rw_or (rt_cp (c_lt) (re_rd (re_var 2)) (re_rd (re_int))) (rw_or1 (rt_cp (c_ge) (re_rd (re_var 2)) (re_rd (re_var 3)))))))
    (rss_one (rs_ret (re_bl)))
    (rss_nil)))))
    (rss_one (rs_ret (re_bl))))
theorem b_Group_look_at (T : Txt P w K mg base) (MT_has : ∀ c g, mt_has c = some g → MtM P w K mg base 2 "has" c .S g) {f : Addr} (cdv : Value) (A : Around) (outer : List PySem.Env) (s : Shared) (H : Hp) (E : XK) (hr : Room 2 (A.deeper (envOfC "Group.look_at" (defScope s_Group_look_at) s.heap.objs.size f cdv))) :
    RSs (cxOf (L2.CX P w) P w K mg base N_Group_look_at "Group.look_at" (defScope s_Group_look_at) f cdv A outer s H E) (WD E) .S (defBody s_Group_look_at) e_Group_look_at :=
  rss_one (rs_if (rt_not (rt_val (re_meth MT_has (hr.mono (by decide)) (takes_of rfl rfl rfl rfl) (re_var 0) (ra_cons (re_var 1) (ra_nil)))))
    (rss_one (rs_raise0 T.e_NoElement rfl (takes_of rfl rfl rfl rfl)))
    (rss_nil))
theorem b_Rounds_put (T : Txt P w K mg base) {f : Addr} (cdv : Value) (A : Around) (outer : List PySem.Env) (s : Shared) (H : Hp) (E : XK) (hr : Room 0 (A.deeper (envOfC "Rounds.put" (defScope s_Rounds_put) s.heap.objs.size f cdv))) :
    RSs (cxOf (L2.CX P w) P w K mg base N_Rounds_put "Rounds.put" (defScope s_Rounds_put) f cdv A outer s H E) (WD E) .S (defBody s_Rounds_put) e_Rounds_put :=
  rss_one (rs_ret (re_blt (b_tuple T.n_tuple) (rar_cons (re_rd (re_lc [("a", 3), ("b", 4), ("number", 5)] rfl sc_Rounds_put.nd (ri_zip3 T.n_zip (ra_cons (re_var 1) (ra_cons (re_var 2) (ra_cons (re_fld T.f_rounds (re_var 0)) (ra_nil))))) (blkOk_by (N := N_Rounds_put) (sc := defScope s_Rounds_put) (by decide +kernel)) (fun _ _ _ _ _ _ => by exact (gT 3 rfl (gsc (gN 3 sc_Rounds_put.nd) (gsc (gN 4 sc_Rounds_put.nd) (gsc (gN 5 sc_Rounds_put.nd) (gs0)))))) (fun _ _ _ _ _ => by exact (rts_nil)) (fun _ _ _ _ _ => by exact (re_mod (re_rd (re_add (re_rd (re_var 3)) (re_rd (re_var 4)))) (re_rd (re_var 5)))))) (rar_nil))))
theorem b_Group_added (T : Txt P w K mg base) (MT_look_at : ∀ c g, mt_look_at c = some g → MtM P w K mg base 3 "look_at" c .S g) (MT_put : ∀ c g, mt_put c = some g → MtM P w K mg base 1 "put" c .S g) {f : Addr} (cdv : Value) (A : Around) (outer : List PySem.Env) (s : Shared) (H : Hp) (E : XK) (hr : Room 3 (A.deeper (envOfC "Group.added" (defScope s_Group_added) s.heap.objs.size f cdv))) :
    RSs (cxOf (L2.CX P w) P w K mg base N_Group_added "Group.added" (defScope s_Group_added) f cdv A outer s H E) (WD E) .S (defBody s_Group_added) e_Group_added :=
  rss_cons (rs_expr (re_meth MT_look_at (hr.mono (by decide)) (takes_of rfl rfl rfl rfl) (re_var 0) (ra_cons (re_var 1) (ra_nil))))
    (rss_cons (rs_expr (re_meth MT_look_at (hr.mono (by decide)) (takes_of rfl rfl rfl rfl) (re_var 0) (ra_cons (re_var 2) (ra_nil))))
    (rss_one (rs_ret (re_meth MT_put (hr.mono (by decide)) (takes_of rfl rfl rfl rfl) (re_var 0) (ra_cons (re_var 1) (ra_cons (re_var 2) (ra_nil)))))))
theorem b_Tower_has (T : Txt P w K mg base) (MT_has : ∀ c g, mt_has c = some g → MtM P w K mg base 2 "has" c .S g) {f : Addr} (cdv : Value) (A : Around) (outer : List PySem.Env) (s : Shared) (H : Hp) (E : XK) (hr : Room 2 (A.deeper (envOfC "Tower.has" (defScope s_Tower_has) s.heap.objs.size f cdv))) :
    RSs (cxOf (L2.CX P w) P w K mg base N_Tower_has "Tower.has" (defScope s_Tower_has) f cdv A outer s H E) (WD E) .S (defBody s_Tower_has) e_Tower_has :=
  rss_cons (rs_if (rt_pw (rw_or (rt_not (rt_val (re_blt (b_is T.isM T.n_isinstance) (rar_cons (re_rd (re_var 1)) (rar_cons (re_rd (re_ty T.n_tuple boot_ty_tuple)) (rar_nil)))))) (rw_or1 (rt_cp (c_ne hr) (re_rd (re_blt (b_len T.n_len) (rar_cons (re_rd (re_var 1)) (rar_nil)))) (re_rd (re_int))))))
    (rss_one (rs_ret (re_bl)))
    (rss_nil))
    (rss_one (rs_ret (re_and (re_meth MT_has (hr.mono (by decide)) (takes_of rfl rfl rfl rfl) (re_fld T.f_lower (re_fld T.f_table (re_var 0))) (ra_cons (re_ix hr (re_rd (re_var 1)) (re_rd (re_int))) (ra_nil))) (re_one (re_meth MT_has (hr.mono (by decide)) (takes_of rfl rfl rfl rfl) (re_fld T.f_upper (re_fld T.f_table (re_var 0))) (ra_cons (re_ix hr (re_rd (re_var 1)) (re_rd (re_int))) (ra_nil)))))))
theorem b_Group_look_at_1 (T : Txt P w K mg base) (MT_has_T : ∀ c g, mt_has_T c = some g → MtM P w K mg base 3 "has" c .S g) {f : Addr} (cdv : Value) (A : Around) (outer : List PySem.Env) (s : Shared) (H : Hp) (E : XK) (hr : Room 3 (A.deeper (envOfC "Group.look_at" (defScope s_Group_look_at) s.heap.objs.size f cdv))) :
    RSs (cxOf (L2.CX P w) P w K mg base N_Group_look_at "Group.look_at" (defScope s_Group_look_at) f cdv A outer s H E) (WD E) .S (defBody s_Group_look_at) e_Group_look_at_1 :=
  rss_one (rs_if (rt_not (rt_val (re_meth MT_has_T (hr.mono (by decide)) (takes_of rfl rfl rfl rfl) (re_var 0) (ra_cons (re_var 1) (ra_nil)))))
    (rss_one (rs_raise0 T.e_NoElement rfl (takes_of rfl rfl rfl rfl)))
    (rss_nil))
theorem b_Table_carry (T : Txt P w K mg base) (MT_has : ∀ c g, mt_has c = some g → MtM P w K mg base 2 "has" c .S g) {f : Addr} (cdv : Value) (A : Around) (outer : List PySem.Env) (s : Shared) (H : Hp) (E : XK) (hr : Room 2 (A.deeper (envOfC "Table.carry" (defScope s_Table_carry) s.heap.objs.size f cdv))) :
    RSs (cxOf (L2.CX P w) P w K mg base N_Table_carry "Table.carry" (defScope s_Table_carry) f cdv A outer s H E) (WD E) .S (defBody s_Table_carry) e_Table_carry :=
  rss_cons (rs_if (rt_pw (rw_or (rt_not (rt_val (re_meth MT_has (hr.mono (by decide)) (takes_of rfl rfl rfl rfl) (re_fld T.f_upper (re_var 0)) (ra_cons (re_var 1) (ra_nil))))) (rw_or1 (rt_not (rt_val (re_meth MT_has (hr.mono (by decide)) (takes_of rfl rfl rfl rfl) (re_fld T.f_upper (re_var 0)) (ra_cons (re_var 2) (ra_nil))))))))
    (rss_one (rs_raise0 T.e_NoElement rfl (takes_of rfl rfl rfl rfl)))
    (rss_nil))
    (rss_one (rs_ret (re_ix hr (re_rd (re_fld T.f_kept (re_var 0))) (re_rd (re_tup (ra_cons (re_var 1) (ra_cons (re_var 2) (ra_nil))))))))
theorem b_Tower_put (T : Txt P w K mg base) (MT_carry : ∀ c g, mt_carry c = some g → MtM P w K mg base 3 "carry" c .S g) (MT_put : ∀ c g, mt_put c = some g → MtM P w K mg base 1 "put" c .S g) {f : Addr} (cdv : Value) (A : Around) (outer : List PySem.Env) (s : Shared) (H : Hp) (E : XK) (hr : Room 3 (A.deeper (envOfC "Tower.put" (defScope s_Tower_put) s.heap.objs.size f cdv))) :
    RSs (cxOf (L2.CX P w) P w K mg base N_Tower_put "Tower.put" (defScope s_Tower_put) f cdv A outer s H E) (WD E) .S (defBody s_Tower_put) e_Tower_put :=
  rss_cons (rs_set 3 sc_Tower_put.nd (re_fld T.f_lower (re_fld T.f_table (re_var 0))))
    (rss_cons (rs_set 4 sc_Tower_put.nd (re_meth MT_carry (hr.mono (by decide)) (takes_of rfl rfl rfl rfl) (re_fld T.f_table (re_var 0)) (ra_cons (re_ix hr (re_rd (re_var 1)) (re_rd (re_int))) (ra_cons (re_ix hr (re_rd (re_var 2)) (re_rd (re_int))) (ra_nil)))))
    (rss_one (rs_ret (re_tup (ra_cons (re_meth MT_put (hr.mono (by decide)) (takes_of rfl rfl rfl rfl) (re_var 3) (ra_cons (re_meth MT_put (hr.mono (by decide)) (takes_of rfl rfl rfl rfl) (re_var 3) (ra_cons (re_ix hr (re_rd (re_var 1)) (re_rd (re_int))) (ra_cons (re_ix hr (re_rd (re_var 2)) (re_rd (re_int))) (ra_nil)))) (ra_cons (re_var 4) (ra_nil)))) (ra_cons (re_meth MT_put (hr.mono (by decide)) (takes_of rfl rfl rfl rfl) (re_fld T.f_upper (re_fld T.f_table (re_var 0))) (ra_cons (re_ix hr (re_rd (re_var 1)) (re_rd (re_int))) (ra_cons (re_ix hr (re_rd (re_var 2)) (re_rd (re_int))) (ra_nil)))) (ra_nil)))))))
theorem b_Group_added_1 (T : Txt P w K mg base) (MT_look_at_T : ∀ c g, mt_look_at_T c = some g → MtM P w K mg base 4 "look_at" c .S g) (MT_put_T : ∀ c g, mt_put_T c = some g → MtM P w K mg base 4 "put" c .S g) {f : Addr} (cdv : Value) (A : Around) (outer : List PySem.Env) (s : Shared) (H : Hp) (E : XK) (hr : Room 4 (A.deeper (envOfC "Group.added" (defScope s_Group_added) s.heap.objs.size f cdv))) :
    RSs (cxOf (L2.CX P w) P w K mg base N_Group_added "Group.added" (defScope s_Group_added) f cdv A outer s H E) (WD E) .S (defBody s_Group_added) e_Group_added_1 :=
  rss_cons (rs_expr (re_meth MT_look_at_T (hr.mono (by decide)) (takes_of rfl rfl rfl rfl) (re_var 0) (ra_cons (re_var 1) (ra_nil))))
    (rss_cons (rs_expr (re_meth MT_look_at_T (hr.mono (by decide)) (takes_of rfl rfl rfl rfl) (re_var 0) (ra_cons (re_var 2) (ra_nil))))
    (rss_one (rs_ret (re_meth MT_put_T (hr.mono (by decide)) (takes_of rfl rfl rfl rfl) (re_var 0) (ra_cons (re_var 1) (ra_cons (re_var 2) (ra_nil)))))))
theorem b_break_of_three (T : Txt P w K mg base) (MT_members_T : ∀ c g, mt_members_T c = some g → MtM P w K mg base 2 "members" c .S g) (MT_added_T : ∀ c g, mt_added_T c = some g → MtM P w K mg base 5 "added" c .S g) (MT_carry : ∀ c g, mt_carry c = some g → MtM P w K mg base 3 "carry" c .S g) {f : Addr} (cdv : Value) (A : Around) (outer : List PySem.Env) (s : Shared) (H : Hp) (E : XK) (hr : Room 5 (A.deeper (envOfC "break_of_three" (defScope s_break_of_three) s.heap.objs.size f cdv))) :
    RSs (cxOf (L2.CX P w) P w K mg base N_break_of_three "break_of_three" (defScope s_break_of_three) f cdv A outer s H E) (WD E) .S (defBody s_break_of_three) e_break_of_three :=
  rss_cons (rs_set 1 sc_break_of_three.nd (re_fld T.f_lower (re_var 0)))
    (rss_cons (rs_set 2 sc_break_of_three.nd (re_fld T.f_upper (re_var 0)))
    (rss_cons (rs_set 3 sc_break_of_three.nd (re_meth0 MT_members_T (hr.mono (by decide)) (takes_of rfl rfl rfl rfl) (re_var 2)))
    (rss_cons (rs_for (passes_of rfl) rfl (by exact (re_iter (re_var 3))) (by exact (gN 4 sc_break_of_three.nd))
    (by exact (rss_one (rs_for (passes_of rfl) rfl (by exact (re_iter (re_var 3))) (by exact (gN 5 sc_break_of_three.nd))
    (by exact (rss_one (rs_for (passes_of rfl) rfl (by exact (re_iter (re_var 3))) (by exact (gN 6 sc_break_of_three.nd))
    (by exact (rss_cons (rs_set 7 sc_break_of_three.nd (re_meth MT_added_T (hr.mono (by decide)) (takes_of rfl rfl rfl rfl) (re_var 1) (ra_cons (re_meth MT_carry (hr.mono (by decide)) (takes_of rfl rfl rfl rfl) (re_var 0) (ra_cons (re_var 4) (ra_cons (re_var 5) (ra_nil)))) (ra_cons (re_meth MT_carry (hr.mono (by decide)) (takes_of rfl rfl rfl rfl) (re_var 0) (ra_cons (re_meth MT_added_T (hr.mono (by decide)) (takes_of rfl rfl rfl rfl) (re_var 2) (ra_cons (re_var 4) (ra_cons (re_var 5) (ra_nil)))) (ra_cons (re_var 6) (ra_nil)))) (ra_nil)))))
    (rss_cons (rs_set 8 sc_break_of_three.nd (re_meth MT_added_T (hr.mono (by decide)) (takes_of rfl rfl rfl rfl) (re_var 1) (ra_cons (re_meth MT_carry (hr.mono (by decide)) (takes_of rfl rfl rfl rfl) (re_var 0) (ra_cons (re_var 5) (ra_cons (re_var 6) (ra_nil)))) (ra_cons (re_meth MT_carry (hr.mono (by decide)) (takes_of rfl rfl rfl rfl) (re_var 0) (ra_cons (re_var 4) (ra_cons (re_meth MT_added_T (hr.mono (by decide)) (takes_of rfl rfl rfl rfl) (re_var 2) (ra_cons (re_var 5) (ra_cons (re_var 6) (ra_nil)))) (ra_nil)))) (ra_nil)))))
    (rss_one (rs_if (rt_cp (c_ne hr) (re_rd (re_var 7)) (re_rd (re_var 8)))
    (rss_one (rs_ret (re_tup (ra_cons (re_var 4) (ra_cons (re_var 5) (ra_cons (re_var 6) (ra_nil)))))))
    (rss_nil)))))))))))))
    (rss_one (rs_ret (re_non))))))
theorem b_Rounds_nought (T : Txt P w K mg base) {f : Addr} (cdv : Value) (A : Around) (outer : List PySem.Env) (s : Shared) (H : Hp) (E : XK) (hr : Room 0 (A.deeper (envOfC "Rounds.nought" (defScope s_Rounds_nought) s.heap.objs.size f cdv))) :
    RSs (cxOf (L2.CX P w) P w K mg base N_Rounds_nought "Rounds.nought" (defScope s_Rounds_nought) f cdv A outer s H E) (WD E) .S (defBody s_Rounds_nought) e_Rounds_nought :=
  rss_one (rs_ret (re_blt (b_tuple T.n_tuple) (rar_cons (re_rd (re_lc [("number", 1)] rfl sc_Rounds_nought.nd (re_iter (re_fld T.f_rounds (re_var 0))) (blkOk_by (N := N_Rounds_nought) (sc := defScope s_Rounds_nought) (by decide +kernel)) (fun _ _ _ _ _ _ => by exact (gN 1 sc_Rounds_nought.nd)) (fun _ _ _ _ _ => by exact (rts_nil)) (fun _ _ _ _ _ => by exact (re_int)))) (rar_nil))))
theorem b_Tower_init (T : Txt P w K mg base) (M_break_of_three : FnM P w K mg base 6 "break_of_three" .S d_break_of_three) (MT_carry : ∀ c g, mt_carry c = some g → MtM P w K mg base 3 "carry" c .S g) (MT_nought : ∀ c g, mt_nought c = some g → MtM P w K mg base 1 "nought" c .S g) {f : Addr} (cdv : Value) (A : Around) (outer : List PySem.Env) (s : Shared) (H : Hp) (E : XK) (x : Addr) (hr : Room 6 (A.deeper (envOfC "Tower.__init__" (defScope s_Tower_init) s.heap.objs.size f cdv))) :
    RSs (cxOf (L2.CX P w) P w K mg base N_Tower_init "Tower.__init__" (defScope s_Tower_init) f cdv A outer s H E) (WI x E) .S (defBody s_Tower_init) e_Tower_init :=
  rss_cons (rs_set 2 sc_Tower_init.nd (re_call M_break_of_three (hr.mono (by decide)) (takes_of rfl rfl rfl rfl) (ra_cons (re_var 1) (ra_nil))))
    (rss_cons (rs_if (rt_cp (c_notN) (re_rd (re_var 2)) (re_rd (re_non)))
    (rss_one (rs_raise T.e_NoTower rfl (takes_of rfl rfl rfl rfl) (hr.mono (by decide)) (ra_cons (re_var 2) (ra_nil))))
    (rss_nil))
    (rss_cons (rs_fldS 0 1 T.cl_Tower_table (re_var 1))
    (rss_one (rs_fldS 0 1 T.cl_Tower_ground (re_meth MT_carry (hr.mono (by decide)) (takes_of rfl rfl rfl rfl) (re_var 1) (ra_cons (re_meth0 MT_nought (hr.mono (by decide)) (takes_of rfl rfl rfl rfl) (re_fld T.f_upper (re_var 1))) (ra_cons (re_meth0 MT_nought (hr.mono (by decide)) (takes_of rfl rfl rfl rfl) (re_fld T.f_upper (re_var 1))) (ra_nil))))))))
theorem b_Group_size (T : Txt P w K mg base) (MT_members : ∀ c g, mt_members c = some g → MtM P w K mg base 1 "members" c .S g) {f : Addr} (cdv : Value) (A : Around) (outer : List PySem.Env) (s : Shared) (H : Hp) (E : XK) (hr : Room 1 (A.deeper (envOfC "Group.size" (defScope s_Group_size) s.heap.objs.size f cdv))) :
    RSs (cxOf (L2.CX P w) P w K mg base N_Group_size "Group.size" (defScope s_Group_size) f cdv A outer s H E) (WD E) .S (defBody s_Group_size) e_Group_size :=
  rss_one (rs_ret (re_blt (b_len T.n_len) (rar_cons (re_rd (re_meth0 MT_members (hr.mono (by decide)) (takes_of rfl rfl rfl rfl) (re_var 0))) (rar_nil))))
theorem b_Group_size_1 (T : Txt P w K mg base) (MT_members_T : ∀ c g, mt_members_T c = some g → MtM P w K mg base 2 "members" c .S g) {f : Addr} (cdv : Value) (A : Around) (outer : List PySem.Env) (s : Shared) (H : Hp) (E : XK) (hr : Room 2 (A.deeper (envOfC "Group.size" (defScope s_Group_size) s.heap.objs.size f cdv))) :
    RSs (cxOf (L2.CX P w) P w K mg base N_Group_size "Group.size" (defScope s_Group_size) f cdv A outer s H E) (WD E) .S (defBody s_Group_size) e_Group_size_1 :=
  rss_one (rs_ret (re_blt (b_len T.n_len) (rar_cons (re_rd (re_meth0 MT_members_T (hr.mono (by decide)) (takes_of rfl rfl rfl rfl) (re_var 0))) (rar_nil))))
theorem b_Rounds_is_even (T : Txt P w K mg base) {f : Addr} (cdv : Value) (A : Around) (outer : List PySem.Env) (s : Shared) (H : Hp) (E : XK) (hr : Room 0 (A.deeper (envOfC "Rounds.is_even" (defScope s_Rounds_is_even) s.heap.objs.size f cdv))) :
    RSs (cxOf (L2.CX P w) P w K mg base N_Rounds_is_even "Rounds.is_even" (defScope s_Rounds_is_even) f cdv A outer s H E) (WD E) .S (defBody s_Rounds_is_even) e_Rounds_is_even :=
  rss_one (rs_ret (re_bl))
theorem b_break_of_two (T : Txt P w K mg base) (MT_members : ∀ c g, mt_members c = some g → MtM P w K mg base 1 "members" c .S g) (MT_carry : ∀ c g, mt_carry c = some g → MtM P w K mg base 3 "carry" c .S g) {f : Addr} (cdv : Value) (A : Around) (outer : List PySem.Env) (s : Shared) (H : Hp) (E : XK) (hr : Room 3 (A.deeper (envOfC "break_of_two" (defScope s_break_of_two) s.heap.objs.size f cdv))) :
    RSs (cxOf (L2.CX P w) P w K mg base N_break_of_two "break_of_two" (defScope s_break_of_two) f cdv A outer s H E) (WD E) .S (defBody s_break_of_two) e_break_of_two :=
  rss_cons (rs_set 1 sc_break_of_two.nd (re_meth0 MT_members (hr.mono (by decide)) (takes_of rfl rfl rfl rfl) (re_fld T.f_upper (re_var 0))))
    (rss_cons (rs_for (passes_of rfl) rfl (by exact (re_iter (re_var 1))) (by exact (gN 2 sc_break_of_two.nd))
    (by exact (rss_one (rs_for (passes_of rfl) rfl (by exact (re_iter (re_var 1))) (by exact (gN 3 sc_break_of_two.nd))
    (by exact (rss_one (rs_if (rt_cp (c_ne hr) (re_rd (re_meth MT_carry (hr.mono (by decide)) (takes_of rfl rfl rfl rfl) (re_var 0) (ra_cons (re_var 2) (ra_cons (re_var 3) (ra_nil))))) (re_rd (re_meth MT_carry (hr.mono (by decide)) (takes_of rfl rfl rfl rfl) (re_var 0) (ra_cons (re_var 3) (ra_cons (re_var 2) (ra_nil))))))
    (rss_one (rs_ret (re_tup (ra_cons (re_var 2) (ra_cons (re_var 3) (ra_nil))))))
    (rss_nil))))))))
    (rss_one (rs_ret (re_non))))
theorem b_Tower_is_even (T : Txt P w K mg base) (M_break_of_two : FnM P w K mg base 4 "break_of_two" .S d_break_of_two) {f : Addr} (cdv : Value) (A : Around) (outer : List PySem.Env) (s : Shared) (H : Hp) (E : XK) (hr : Room 4 (A.deeper (envOfC "Tower.is_even" (defScope s_Tower_is_even) s.heap.objs.size f cdv))) :
    RSs (cxOf (L2.CX P w) P w K mg base N_Tower_is_even "Tower.is_even" (defScope s_Tower_is_even) f cdv A outer s H E) (WD E) .S (defBody s_Tower_is_even) e_Tower_is_even :=
  rss_one (rs_ret (re_cp (c_isN) (re_rd (re_call M_break_of_two (hr.mono (by decide)) (takes_of rfl rfl rfl rfl) (ra_cons (re_fld T.f_table (re_var 0)) (ra_nil)))) (re_rd (re_non))))
theorem b_look_at_groups (T : Txt P w K mg base) (MT_size_T : ∀ c g, mt_size_T c = some g → MtM P w K mg base 3 "size" c .S g) (MT_is_even_T : ∀ c g, mt_is_even_T c = some g → MtM P w K mg base 5 "is_even" c .S g) {f : Addr} (cdv : Value) (A : Around) (outer : List PySem.Env) (s : Shared) (H : Hp) (E : XK) (hr : Room 5 (A.deeper (envOfC "look_at_groups" (defScope s_look_at_groups) s.heap.objs.size f cdv))) :
    RSs (cxOf (L2.CX P w) P w K mg base N_look_at_groups "look_at_groups" (defScope s_look_at_groups) f cdv A outer s H E) (WD E) .S (defBody s_look_at_groups) e_look_at_groups :=
  rss_cons (rs_if (rt_pw (rw_or (rt_cp (c_gt) (re_rd (re_meth0 MT_size_T (hr.mono (by decide)) (takes_of rfl rfl rfl rfl) (re_var 0))) (re_rd (re_gI T.g_MOST_LOWER))) (rw_or1 (rt_not (rt_val (re_meth0 MT_is_even_T (hr.mono (by decide)) (takes_of rfl rfl rfl rfl) (re_var 0)))))))
    (rss_one (rs_raise0 T.e_NoLower rfl (takes_of rfl rfl rfl rfl)))
    (rss_nil))
    (rss_one (rs_if (rt_pw (rw_or (rt_not (rt_val (re_blt (b_is T.isM T.n_isinstance) (rar_cons (re_rd (re_var 1)) (rar_cons (re_rd (re_cls (c := 0) T.c_Rounds)) (rar_nil)))))) (rw_or1 (rt_cp (c_gt) (re_rd (re_meth0 MT_size_T (hr.mono (by decide)) (takes_of rfl rfl rfl rfl) (re_var 1))) (re_rd (re_gI T.g_MOST_UPPER))))))
    (rss_one (rs_raise0 T.e_NoUpper rfl (takes_of rfl rfl rfl rfl)))
    (rss_nil)))
theorem b_Table_init (T : Txt P w K mg base) (M_look_at_groups : FnM P w K mg base 6 "look_at_groups" .S d_look_at_groups) (MT_members_T : ∀ c g, mt_members_T c = some g → MtM P w K mg base 2 "members" c .S g) (MT_has_T : ∀ c g, mt_has_T c = some g → MtM P w K mg base 3 "has" c .S g) {f : Addr} (cdv : Value) (A : Around) (outer : List PySem.Env) (s : Shared) (H : Hp) (E : XK) (x : Addr) (hr : Room 6 (A.deeper (envOfC "Table.__init__" (defScope s_Table_init) s.heap.objs.size f cdv))) :
    RSs (cxOf (L2.CX P w) P w K mg base N_Table_init "Table.__init__" (defScope s_Table_init) f cdv A outer s H E) (WI x E) .S (defBody s_Table_init) e_Table_init :=
  rss_cons (rs_expr (re_call M_look_at_groups (hr.mono (by decide)) (takes_of rfl rfl rfl rfl) (ra_cons (re_var 1) (ra_cons (re_var 2) (ra_nil)))))
    (rss_cons (rs_fldS 0 2 T.cl_Table_lower (re_var 1))
    (rss_cons (rs_fldS 0 2 T.cl_Table_upper (re_var 2))
    (rss_cons (rs_fldO 0 2 T.cl_Table_kept (re_dic0))
    (rss_cons (rs_set 4 sc_Table_init.nd (re_meth0 MT_members_T (hr.mono (by decide)) (takes_of rfl rfl rfl rfl) (re_var 2)))
    (rss_one (rs_for (passes_of rfl) rfl (by exact (re_iter (re_var 4))) (by exact (gN 5 sc_Table_init.nd))
    (by exact (rss_one (rs_for (passes_of rfl) rfl (by exact (re_iter (re_var 4))) (by exact (gN 6 sc_Table_init.nd))
    (by exact (rss_cons (rs_if (rt_pw (rw_or (rt_cp (c_notIn hr) (re_rd (re_tup (ra_cons (re_var 5) (ra_cons (re_var 6) (ra_nil))))) (re_rd (re_var 3))) (rw_or1 (rt_not (rt_val (re_meth MT_has_T (hr.mono (by decide)) (takes_of rfl rfl rfl rfl) (re_var 1) (ra_cons (re_ix hr (re_rd (re_var 3)) (re_rd (re_tup (ra_cons (re_var 5) (ra_cons (re_var 6) (ra_nil)))))) (ra_nil))))))))
    (rss_one (rs_raise T.e_NoCarry rfl (takes_of rfl rfl rfl rfl) (hr.mono (by decide)) (ra_cons (re_var 5) (ra_cons (re_var 6) (ra_nil)))))
    (rss_nil))
    (rss_one (rs_fldItem 0 2 2 T.cl_Table_kept hr (re_ix hr (re_rd (re_var 3)) (re_rd (re_tup (ra_cons (re_var 5) (ra_cons (re_var 6) (ra_nil)))))) (re_rd (re_tup (ra_cons (re_var 5) (ra_cons (re_var 6) (ra_nil))))))))))))))))))
theorem b_q_made_r0 (T : Txt P w K mg base) (MK_Rounds : MkM P w K mg base 3 0 d_Rounds_init) (MK_Tower : MkM P w K mg base 7 1 d_Tower_init) (MK_Table : MkM P w K mg base 7 2 d_Table_init) {f : Addr} (cdv : Value) (A : Around) (outer : List PySem.Env) (s : Shared) (H : Hp) (E : XK) (hr : Room 8 (A.deeper (envOfC "_law_made" (defScope s_q_made) s.heap.objs.size f cdv))) :
    RSs (cxOf (L2.CX P w) P w K mg base N_q_made "_law_made" (defScope s_q_made) f cdv A outer s H E) (WD E) .S (defBody s_q_made) e_q_made_r0 :=
  rss_cons (rs_if (rt_cp (c_eq hr) (re_rd (re_blt (b_len T.n_len) (rar_cons (re_rd (re_var 0)) (rar_nil)))) (re_rd (re_int)))
    (rss_one (rs_ret (re_make MK_Rounds (hr.mono (by decide)) (takes_of rfl rfl rfl rfl) (ra_cons (re_ix hr (re_rd (re_var 0)) (re_rd (re_int))) (ra_nil)))))
    (rss_nil))
    (rss_one (rs_ret (re_make MK_Tower (hr.mono (by decide)) (takes_of rfl rfl rfl rfl) (ra_cons (re_make MK_Table (hr.mono (by decide)) (takes_of rfl rfl rfl rfl) (ra_cons (re_never) (ra_cons (re_make MK_Rounds (hr.mono (by decide)) (takes_of rfl rfl rfl rfl) (ra_cons (re_ix hr (re_rd (re_var 0)) (re_rd (re_int))) (ra_nil))) (ra_cons (re_share (re_blt (b_dict hr T.n_dict) (rar_cons (re_rd (re_ix hr (re_rd (re_var 0)) (re_rd (re_int)))) (rar_nil)))) (ra_nil))))) (ra_nil)))))
theorem b_q_made_r1 (T : Txt P w K mg base) (MK_Rounds : MkM P w K mg base 3 0 d_Rounds_init) (MK_Tower : MkM P w K mg base 7 1 d_Tower_init) (MK_Table : MkM P w K mg base 7 2 d_Table_init) (M_q_made_r0 : FnM P w K mg base 9 "_law_made" .S d_q_made_r0) {f : Addr} (cdv : Value) (A : Around) (outer : List PySem.Env) (s : Shared) (H : Hp) (E : XK) (hr : Room 9 (A.deeper (envOfC "_law_made" (defScope s_q_made) s.heap.objs.size f cdv))) :
    RSs (cxOf (L2.CX P w) P w K mg base N_q_made "_law_made" (defScope s_q_made) f cdv A outer s H E) (WD E) .S (defBody s_q_made) e_q_made_r1 :=
  rss_cons (rs_if (rt_cp (c_eq hr) (re_rd (re_blt (b_len T.n_len) (rar_cons (re_rd (re_var 0)) (rar_nil)))) (re_rd (re_int)))
    (rss_one (rs_ret (re_make MK_Rounds (hr.mono (by decide)) (takes_of rfl rfl rfl rfl) (ra_cons (re_ix hr (re_rd (re_var 0)) (re_rd (re_int))) (ra_nil)))))
    (rss_nil))
    (rss_one (rs_ret (re_make MK_Tower (hr.mono (by decide)) (takes_of rfl rfl rfl rfl) (ra_cons (re_make MK_Table (hr.mono (by decide)) (takes_of rfl rfl rfl rfl) (ra_cons (re_call M_q_made_r0 (hr.mono (by decide)) (takes_of rfl rfl rfl rfl) (ra_cons (re_ix hr (re_rd (re_var 0)) (re_rd (re_int))) (ra_nil))) (ra_cons (re_make MK_Rounds (hr.mono (by decide)) (takes_of rfl rfl rfl rfl) (ra_cons (re_ix hr (re_rd (re_var 0)) (re_rd (re_int))) (ra_nil))) (ra_cons (re_share (re_blt (b_dict hr T.n_dict) (rar_cons (re_rd (re_ix hr (re_rd (re_var 0)) (re_rd (re_int)))) (rar_nil)))) (ra_nil))))) (ra_nil)))))
theorem b_q_made (T : Txt P w K mg base) (MK_Rounds : MkM P w K mg base 3 0 d_Rounds_init) (MK_Tower : MkM P w K mg base 7 1 d_Tower_init) (MK_Table : MkM P w K mg base 7 2 d_Table_init) (M_q_made_r1 : FnM P w K mg base 10 "_law_made" .S d_q_made_r1) {f : Addr} (cdv : Value) (A : Around) (outer : List PySem.Env) (s : Shared) (H : Hp) (E : XK) (hr : Room 10 (A.deeper (envOfC "_law_made" (defScope s_q_made) s.heap.objs.size f cdv))) :
    RSs (cxOf (L2.CX P w) P w K mg base N_q_made "_law_made" (defScope s_q_made) f cdv A outer s H E) (WD E) .S (defBody s_q_made) e_q_made :=
  rss_cons (rs_if (rt_cp (c_eq hr) (re_rd (re_blt (b_len T.n_len) (rar_cons (re_rd (re_var 0)) (rar_nil)))) (re_rd (re_int)))
    (rss_one (rs_ret (re_make MK_Rounds (hr.mono (by decide)) (takes_of rfl rfl rfl rfl) (ra_cons (re_ix hr (re_rd (re_var 0)) (re_rd (re_int))) (ra_nil)))))
    (rss_nil))
    (rss_one (rs_ret (re_make MK_Tower (hr.mono (by decide)) (takes_of rfl rfl rfl rfl) (ra_cons (re_make MK_Table (hr.mono (by decide)) (takes_of rfl rfl rfl rfl) (ra_cons (re_call M_q_made_r1 (hr.mono (by decide)) (takes_of rfl rfl rfl rfl) (ra_cons (re_ix hr (re_rd (re_var 0)) (re_rd (re_int))) (ra_nil))) (ra_cons (re_make MK_Rounds (hr.mono (by decide)) (takes_of rfl rfl rfl rfl) (ra_cons (re_ix hr (re_rd (re_var 0)) (re_rd (re_int))) (ra_nil))) (ra_cons (re_share (re_blt (b_dict hr T.n_dict) (rar_cons (re_rd (re_ix hr (re_rd (re_var 0)) (re_rd (re_int)))) (rar_nil)))) (ra_nil))))) (ra_nil)))))
theorem b_Rounds_backed (T : Txt P w K mg base) {f : Addr} (cdv : Value) (A : Around) (outer : List PySem.Env) (s : Shared) (H : Hp) (E : XK) (hr : Room 0 (A.deeper (envOfC "Rounds.backed" (defScope s_Rounds_backed) s.heap.objs.size f cdv))) :
    RSs (cxOf (L2.CX P w) P w K mg base N_Rounds_backed "Rounds.backed" (defScope s_Rounds_backed) f cdv A outer s H E) (WD E) .S (defBody s_Rounds_backed) e_Rounds_backed :=
  rss_one (rs_ret (re_blt (b_tuple T.n_tuple) (rar_cons (re_rd (re_lc [("a", 2), ("number", 3)] rfl sc_Rounds_backed.nd (ri_zip2 T.n_zip (ra_cons (re_var 1) (ra_cons (re_fld T.f_rounds (re_var 0)) (ra_nil)))) (blkOk_by (N := N_Rounds_backed) (sc := defScope s_Rounds_backed) (by decide +kernel)) (fun _ _ _ _ _ _ => by exact (gT 2 rfl (gsc (gN 2 sc_Rounds_backed.nd) (gsc (gN 3 sc_Rounds_backed.nd) (gs0))))) (fun _ _ _ _ _ => by exact (rts_nil)) (fun _ _ _ _ _ => by exact (re_mod (re_rd (re_sub (re_rd (re_int)) (re_rd (re_var 2)))) (re_rd (re_var 3)))))) (rar_nil))))
theorem b_Tower_backed (T : Txt P w K mg base) (MT_backed : ∀ c g, mt_backed c = some g → MtM P w K mg base 1 "backed" c .S g) (MT_put : ∀ c g, mt_put c = some g → MtM P w K mg base 1 "put" c .S g) (MT_carry : ∀ c g, mt_carry c = some g → MtM P w K mg base 3 "carry" c .S g) {f : Addr} (cdv : Value) (A : Around) (outer : List PySem.Env) (s : Shared) (H : Hp) (E : XK) (hr : Room 3 (A.deeper (envOfC "Tower.backed" (defScope s_Tower_backed) s.heap.objs.size f cdv))) :
    RSs (cxOf (L2.CX P w) P w K mg base N_Tower_backed "Tower.backed" (defScope s_Tower_backed) f cdv A outer s H E) (WD E) .S (defBody s_Tower_backed) e_Tower_backed :=
  rss_cons (rs_set 2 sc_Tower_backed.nd (re_fld T.f_lower (re_fld T.f_table (re_var 0))))
    (rss_cons (rs_set 3 sc_Tower_backed.nd (re_meth MT_backed (hr.mono (by decide)) (takes_of rfl rfl rfl rfl) (re_fld T.f_upper (re_fld T.f_table (re_var 0))) (ra_cons (re_ix hr (re_rd (re_var 1)) (re_rd (re_int))) (ra_nil))))
    (rss_cons (rs_set 4 sc_Tower_backed.nd (re_meth MT_put (hr.mono (by decide)) (takes_of rfl rfl rfl rfl) (re_var 2) (ra_cons (re_ix hr (re_rd (re_var 1)) (re_rd (re_int))) (ra_cons (re_meth MT_put (hr.mono (by decide)) (takes_of rfl rfl rfl rfl) (re_var 2) (ra_cons (re_meth MT_carry (hr.mono (by decide)) (takes_of rfl rfl rfl rfl) (re_fld T.f_table (re_var 0)) (ra_cons (re_ix hr (re_rd (re_var 1)) (re_rd (re_int))) (ra_cons (re_var 3) (ra_nil)))) (ra_cons (re_fld T.f_ground (re_var 0)) (ra_nil)))) (ra_nil)))))
    (rss_one (rs_ret (re_tup (ra_cons (re_meth MT_backed (hr.mono (by decide)) (takes_of rfl rfl rfl rfl) (re_var 2) (ra_cons (re_var 4) (ra_nil))) (ra_cons (re_var 3) (ra_nil))))))))
theorem b_Tower_nought (T : Txt P w K mg base) (MT_backed : ∀ c g, mt_backed c = some g → MtM P w K mg base 1 "backed" c .S g) (MT_nought : ∀ c g, mt_nought c = some g → MtM P w K mg base 1 "nought" c .S g) {f : Addr} (cdv : Value) (A : Around) (outer : List PySem.Env) (s : Shared) (H : Hp) (E : XK) (hr : Room 1 (A.deeper (envOfC "Tower.nought" (defScope s_Tower_nought) s.heap.objs.size f cdv))) :
    RSs (cxOf (L2.CX P w) P w K mg base N_Tower_nought "Tower.nought" (defScope s_Tower_nought) f cdv A outer s H E) (WD E) .S (defBody s_Tower_nought) e_Tower_nought :=
  rss_one (rs_ret (re_tup (ra_cons (re_meth MT_backed (hr.mono (by decide)) (takes_of rfl rfl rfl rfl) (re_fld T.f_lower (re_fld T.f_table (re_var 0))) (ra_cons (re_fld T.f_ground (re_var 0)) (ra_nil))) (ra_cons (re_meth0 MT_nought (hr.mono (by decide)) (takes_of rfl rfl rfl rfl) (re_fld T.f_upper (re_fld T.f_table (re_var 0)))) (ra_nil)))))
theorem b_Tower_lying_2 (T : Txt P w K mg base) (MT_has_T : ∀ c g, mt_has_T c = some g → MtM P w K mg base 3 "has" c .S g) (MT_put_T : ∀ c g, mt_put_T c = some g → MtM P w K mg base 4 "put" c .S g) (MT_backed_T : ∀ c g, mt_backed_T c = some g → MtM P w K mg base 4 "backed" c .S g) (MT_nought_T : ∀ c g, mt_nought_T c = some g → MtM P w K mg base 2 "nought" c .S g) {f : Addr} (cdv : Value) (A : Around) (outer : List PySem.Env) (s : Shared) (H : Hp) (E : XK) (hr : Room 4 (A.deeper (envOfC "Tower.lying" (defScope s_Tower_lying) s.heap.objs.size f cdv))) :
    RSs (cxOf (L2.CX P w) P w K mg base N_Tower_lying "Tower.lying" (defScope s_Tower_lying) f cdv A outer s H E) (WD E) .S (defBody s_Tower_lying) e_Tower_lying_2 :=
  rss_cons (rs_set 2 sc_Tower_lying.nd (re_fld T.f_lower (re_fld T.f_table (re_var 0))))
    (rss_cons (rs_if (rt_not (rt_val (re_meth MT_has_T (hr.mono (by decide)) (takes_of rfl rfl rfl rfl) (re_var 2) (ra_cons (re_var 1) (ra_nil)))))
    (rss_one (rs_raise0 T.e_NoElement rfl (takes_of rfl rfl rfl rfl)))
    (rss_nil))
    (rss_one (rs_ret (re_tup (ra_cons (re_meth MT_put_T (hr.mono (by decide)) (takes_of rfl rfl rfl rfl) (re_var 2) (ra_cons (re_var 1) (ra_cons (re_meth MT_backed_T (hr.mono (by decide)) (takes_of rfl rfl rfl rfl) (re_var 2) (ra_cons (re_fld T.f_ground (re_var 0)) (ra_nil))) (ra_nil)))) (ra_cons (re_meth0 MT_nought_T (hr.mono (by decide)) (takes_of rfl rfl rfl rfl) (re_fld T.f_upper (re_fld T.f_table (re_var 0)))) (ra_nil)))))))
theorem b_Tower_has_2 (T : Txt P w K mg base) (MT_has_T : ∀ c g, mt_has_T c = some g → MtM P w K mg base 3 "has" c .S g) {f : Addr} (cdv : Value) (A : Around) (outer : List PySem.Env) (s : Shared) (H : Hp) (E : XK) (hr : Room 3 (A.deeper (envOfC "Tower.has" (defScope s_Tower_has) s.heap.objs.size f cdv))) :
    RSs (cxOf (L2.CX P w) P w K mg base N_Tower_has "Tower.has" (defScope s_Tower_has) f cdv A outer s H E) (WD E) .S (defBody s_Tower_has) e_Tower_has_2 :=
  rss_cons (rs_if (rt_pw (rw_or (rt_not (rt_val (re_blt (b_is T.isM T.n_isinstance) (rar_cons (re_rd (re_var 1)) (rar_cons (re_rd (re_ty T.n_tuple boot_ty_tuple)) (rar_nil)))))) (rw_or1 (rt_cp (c_ne hr) (re_rd (re_blt (b_len T.n_len) (rar_cons (re_rd (re_var 1)) (rar_nil)))) (re_rd (re_int))))))
    (rss_one (rs_ret (re_bl)))
    (rss_nil))
    (rss_one (rs_ret (re_and (re_meth MT_has_T (hr.mono (by decide)) (takes_of rfl rfl rfl rfl) (re_fld T.f_lower (re_fld T.f_table (re_var 0))) (ra_cons (re_ix hr (re_rd (re_var 1)) (re_rd (re_int))) (ra_nil))) (re_one (re_meth MT_has_T (hr.mono (by decide)) (takes_of rfl rfl rfl rfl) (re_fld T.f_upper (re_fld T.f_table (re_var 0))) (ra_cons (re_ix hr (re_rd (re_var 1)) (re_rd (re_int))) (ra_nil)))))))
theorem b_Group_look_at_1_2 (T : Txt P w K mg base) (MT_has_T_T : ∀ c g, mt_has_T_T c = some g → MtM P w K mg base 4 "has" c .S g) {f : Addr} (cdv : Value) (A : Around) (outer : List PySem.Env) (s : Shared) (H : Hp) (E : XK) (hr : Room 4 (A.deeper (envOfC "Group.look_at" (defScope s_Group_look_at) s.heap.objs.size f cdv))) :
    RSs (cxOf (L2.CX P w) P w K mg base N_Group_look_at "Group.look_at" (defScope s_Group_look_at) f cdv A outer s H E) (WD E) .S (defBody s_Group_look_at) e_Group_look_at_1_2 :=
  rss_one (rs_if (rt_not (rt_val (re_meth MT_has_T_T (hr.mono (by decide)) (takes_of rfl rfl rfl rfl) (re_var 0) (ra_cons (re_var 1) (ra_nil)))))
    (rss_one (rs_raise0 T.e_NoElement rfl (takes_of rfl rfl rfl rfl)))
    (rss_nil))
theorem b_Tower_put_2 (T : Txt P w K mg base) (MT_carry : ∀ c g, mt_carry c = some g → MtM P w K mg base 3 "carry" c .S g) (MT_put_T : ∀ c g, mt_put_T c = some g → MtM P w K mg base 4 "put" c .S g) {f : Addr} (cdv : Value) (A : Around) (outer : List PySem.Env) (s : Shared) (H : Hp) (E : XK) (hr : Room 4 (A.deeper (envOfC "Tower.put" (defScope s_Tower_put) s.heap.objs.size f cdv))) :
    RSs (cxOf (L2.CX P w) P w K mg base N_Tower_put "Tower.put" (defScope s_Tower_put) f cdv A outer s H E) (WD E) .S (defBody s_Tower_put) e_Tower_put_2 :=
  rss_cons (rs_set 3 sc_Tower_put.nd (re_fld T.f_lower (re_fld T.f_table (re_var 0))))
    (rss_cons (rs_set 4 sc_Tower_put.nd (re_meth MT_carry (hr.mono (by decide)) (takes_of rfl rfl rfl rfl) (re_fld T.f_table (re_var 0)) (ra_cons (re_ix hr (re_rd (re_var 1)) (re_rd (re_int))) (ra_cons (re_ix hr (re_rd (re_var 2)) (re_rd (re_int))) (ra_nil)))))
    (rss_one (rs_ret (re_tup (ra_cons (re_meth MT_put_T (hr.mono (by decide)) (takes_of rfl rfl rfl rfl) (re_var 3) (ra_cons (re_meth MT_put_T (hr.mono (by decide)) (takes_of rfl rfl rfl rfl) (re_var 3) (ra_cons (re_ix hr (re_rd (re_var 1)) (re_rd (re_int))) (ra_cons (re_ix hr (re_rd (re_var 2)) (re_rd (re_int))) (ra_nil)))) (ra_cons (re_var 4) (ra_nil)))) (ra_cons (re_meth MT_put_T (hr.mono (by decide)) (takes_of rfl rfl rfl rfl) (re_fld T.f_upper (re_fld T.f_table (re_var 0))) (ra_cons (re_ix hr (re_rd (re_var 1)) (re_rd (re_int))) (ra_cons (re_ix hr (re_rd (re_var 2)) (re_rd (re_int))) (ra_nil)))) (ra_nil)))))))
theorem b_Group_added_1_2 (T : Txt P w K mg base) (MT_look_at_T_T : ∀ c g, mt_look_at_T_T c = some g → MtM P w K mg base 5 "look_at" c .S g) (MT_put_T_T : ∀ c g, mt_put_T_T c = some g → MtM P w K mg base 5 "put" c .S g) {f : Addr} (cdv : Value) (A : Around) (outer : List PySem.Env) (s : Shared) (H : Hp) (E : XK) (hr : Room 5 (A.deeper (envOfC "Group.added" (defScope s_Group_added) s.heap.objs.size f cdv))) :
    RSs (cxOf (L2.CX P w) P w K mg base N_Group_added "Group.added" (defScope s_Group_added) f cdv A outer s H E) (WD E) .S (defBody s_Group_added) e_Group_added_1_2 :=
  rss_cons (rs_expr (re_meth MT_look_at_T_T (hr.mono (by decide)) (takes_of rfl rfl rfl rfl) (re_var 0) (ra_cons (re_var 1) (ra_nil))))
    (rss_cons (rs_expr (re_meth MT_look_at_T_T (hr.mono (by decide)) (takes_of rfl rfl rfl rfl) (re_var 0) (ra_cons (re_var 2) (ra_nil))))
    (rss_one (rs_ret (re_meth MT_put_T_T (hr.mono (by decide)) (takes_of rfl rfl rfl rfl) (re_var 0) (ra_cons (re_var 1) (ra_cons (re_var 2) (ra_nil)))))))
theorem b_Tower_over_2 (T : Txt P w K mg base) (MT_has_T : ∀ c g, mt_has_T c = some g → MtM P w K mg base 3 "has" c .S g) (MT_members_T : ∀ c g, mt_members_T c = some g → MtM P w K mg base 2 "members" c .S g) {f : Addr} (cdv : Value) (A : Around) (outer : List PySem.Env) (s : Shared) (H : Hp) (E : XK) (hr : Room 3 (A.deeper (envOfC "Tower.over" (defScope s_Tower_over) s.heap.objs.size f cdv))) :
    RSs (cxOf (L2.CX P w) P w K mg base N_Tower_over "Tower.over" (defScope s_Tower_over) f cdv A outer s H E) (WD E) (.O .flat) (defBody s_Tower_over) e_Tower_over_2 :=
  rss_cons (rs_if (rt_not (rt_val (re_meth MT_has_T (hr.mono (by decide)) (takes_of rfl rfl rfl rfl) (re_fld T.f_upper (re_fld T.f_table (re_var 0))) (ra_cons (re_var 1) (ra_nil)))))
    (rss_one (rs_raise0 T.e_NoElement rfl (takes_of rfl rfl rfl rfl)))
    (rss_nil))
    (rss_one (rs_ret (re_lc [("a", 2)] rfl sc_Tower_over.nd (re_iter (re_meth0 MT_members_T (hr.mono (by decide)) (takes_of rfl rfl rfl rfl) (re_fld T.f_lower (re_fld T.f_table (re_var 0))))) (blkOk_by (N := N_Tower_over) (sc := defScope s_Tower_over) (by decide +kernel)) (fun _ _ _ _ _ _ => by exact (gN 2 sc_Tower_over.nd)) (fun _ _ _ _ _ => by exact (rts_nil)) (fun _ _ _ _ _ => by exact (re_tup (ra_cons (re_var 2) (ra_cons (re_var 1) (ra_nil))))))))
theorem b_q_near (T : Txt P w K mg base) {f : Addr} (cdv : Value) (A : Around) (outer : List PySem.Env) (s : Shared) (H : Hp) (E : XK) (hr : Room 0 (A.deeper (envOfC "_law_near" (defScope s_q_near) s.heap.objs.size f cdv))) :
    RSs (cxOf (L2.CX P w) P w K mg base N_q_near "_law_near" (defScope s_q_near) f cdv A outer s H E) (WD E) .S (defBody s_q_near) e_q_near :=
  rss_cons (rs_if (rt_pw (rw_and (rt_cp (c_eq hr) (re_rd (re_blt (b_len T.n_len) (rar_cons (re_rd (re_var 0)) (rar_nil)))) (re_rd (re_int))) (rw_and1 (rt_val (re_blt (b_is T.isM T.n_isinstance) (rar_cons (re_rd (re_ix hr (re_rd (re_var 0)) (re_rd (re_int)))) (rar_cons (re_rd (re_ty T.n_tuple boot_ty_tuple)) (rar_nil))))))))
    (rss_cons (rs_set 1 sc_q_near.nd (re_ix hr (re_rd (re_var 0)) (re_rd (re_int))))
    (rss_cons (rs_set 2 sc_q_near.nd (re_share (re_lst (ra_cons (re_tup (ra_cons (re_blt (b_tuple T.n_tuple) (rar_cons (re_rd (re_lc [("_law_number", 3)] rfl sc_q_near.nd (re_iter (re_var 1)) (blkOk_by (N := N_q_near) (sc := defScope s_q_near) (by decide +kernel)) (fun _ _ _ _ _ _ => by exact (gN 3 sc_q_near.nd)) (fun _ _ _ _ _ => by exact (rts_nil)) (fun _ _ _ _ _ => by exact (re_cp (c_eq hr) (re_rd (re_var 3)) (re_rd (re_int)))))) (rar_nil))) (ra_cons (re_ix hr (re_rd (re_var 0)) (re_rd (re_int))) (ra_nil)))) (ra_cons (re_tup (ra_cons (re_add (re_rd (re_var 1)) (re_rd (re_tup (ra_cons (re_int) (ra_nil))))) (ra_cons (re_ix hr (re_rd (re_var 0)) (re_rd (re_int))) (ra_nil)))) (ra_cons (re_tup (ra_cons (re_share (re_blt (b_list T.n_list) (rar_cons (re_rd (re_var 1)) (rar_nil)))) (ra_cons (re_ix hr (re_rd (re_var 0)) (re_rd (re_int))) (ra_nil)))) (ra_nil)))))))
    (rss_one (rs_ret (re_add (re_rd (re_var 2)) (re_rd (re_lst (ra_cons (re_tup (ra_cons (re_var 1) (ra_cons (re_tup (ra_cons (re_bl) (ra_nil))) (ra_nil)))) (ra_cons (re_tup (ra_cons (re_var 1) (ra_cons (re_int) (ra_nil)))) (ra_cons (re_var 1) (ra_cons (re_tup (ra_cons (re_var 1) (ra_cons (re_ix hr (re_rd (re_var 0)) (re_rd (re_int))) (ra_cons (re_ix hr (re_rd (re_var 0)) (re_rd (re_int))) (ra_nil))))) (ra_nil))))))))))))
    (rss_nil))
    (rss_cons (rs_set 2 sc_q_near.nd (re_share (re_lst (ra_cons (re_add (re_rd (re_var 0)) (re_rd (re_tup (ra_cons (re_int) (ra_nil))))) (ra_cons (re_share (re_blt (b_list T.n_list) (rar_cons (re_rd (re_var 0)) (rar_nil)))) (ra_cons (re_mul (re_rd (re_tup (ra_cons (re_bl) (ra_nil)))) (re_rd (re_blt (b_max rfl T.n_max) (rar_cons (re_rd (re_int)) (rar_cons (re_rd (re_blt (b_len T.n_len) (rar_cons (re_rd (re_var 0)) (rar_nil)))) (rar_nil)))))) (ra_cons (re_add (re_rd (re_blt (b_tuple T.n_tuple) (rar_cons (re_rd (re_lc [("_law_number", 3)] rfl sc_q_near.nd (re_iter (re_var 0)) (blkOk_by (N := N_q_near) (sc := defScope s_q_near) (by decide +kernel)) (fun _ _ _ _ _ _ => by exact (gN 3 sc_q_near.nd)) (fun _ _ _ _ _ => by exact (rts_nil)) (fun _ _ _ _ _ => by exact (re_int)))) (rar_nil)))) (re_rd (re_tup (ra_cons (re_neg (re_rd (re_int))) (ra_nil))))) (ra_nil))))))))
    (rss_one (rs_ret (re_add (re_rd (re_var 2)) (re_rd (re_lst (ra_cons (re_add (re_rd (re_tup (ra_cons (re_bl) (ra_nil)))) (re_rd (re_slice (re_rd (re_var 0)) (rp_some (re_rd (re_int))) (rp_none)))) (ra_cons (re_non) (ra_cons (re_str) (ra_nil))))))))))
theorem b_q_refused (T : Txt P w K mg base) (MT_lying_T_T : ∀ c g, mt_lying_T_T c = some g → MtM P w K mg base 5 "lying" c .S g) (MT_over_T_T : ∀ c g, mt_over_T_T c = some g → MtM P w K mg base 4 "over" c (.O .flat) g) {f : Addr} (cdv : Value) (A : Around) (outer : List PySem.Env) (s : Shared) (H : Hp) (E : XK) (hr : Room 5 (A.deeper (envOfC "_law_refused" (defScope s_q_refused) s.heap.objs.size f cdv))) :
    RSs (cxOf (L2.CX P w) P w K mg base N_q_refused "_law_refused" (defScope s_q_refused) f cdv A outer s H E) (WD E) .S (defBody s_q_refused) e_q_refused :=
  rss_cons (rs_set 3 sc_q_refused.nd (re_share (re_lst (ra_nil))))
    (rss_cons (rs_try T.ctM sc_q_refused.nd (takes_of rfl rfl rfl rfl) (fun _ _ _ tk1 po1 => by exact (rss_one (rs_if (rt_cp (c_eq hr) (re_rd (re_var 0)) (re_rd (re_int)))
    (rss_one (rs_expr (re_meth MT_lying_T_T (hr.mono (by decide)) (tk1) (re_var 1) (ra_cons (re_var 2) (ra_nil)))))
    (rss_one (rs_expr (re_share (re_meth MT_over_T_T (hr.mono (by decide)) (tk1) (re_var 1) (ra_cons (re_var 2) (ra_nil))))))))) (by exact (ClsD.as (i := 4) (names_own (u := 10) T.c_CarryError) rfl rfl rfl (by first | exact fun _ _ h => h | exact jset (by decide)) (fun _ _ => by exact (rss_one (rs_set 3 sc_q_refused.nd (re_share (re_lst (ra_cons (re_blt (b_is T.isM T.n_isinstance) (rar_cons (re_rd (re_var 4)) (rar_cons (re_rd (re_cls (c := 12) T.c_NoElement)) (rar_nil)))) (ra_nil))))))) (by exact (ClsD.nil)))))
    (rss_one (rs_ret (re_cp (c_eq hr) (re_rd (re_var 3)) (re_rd (re_lst (ra_cons (re_bl) (ra_nil))))))))
theorem b_law (T : Txt P w K mg base) (M_q_cell : FnM P w K mg base 1 "_law_cell" .S d_q_cell) (M_q_laid : FnM P w K mg base 7 "_law_laid" .S d_q_laid) (M_q_made : FnM P w K mg base 11 "_law_made" .S d_q_made) (M_q_all : FnM P w K mg base 4 "_law_all" .S d_q_all) (M_q_backs : FnM P w K mg base 6 "_law_backs" .S d_q_backs) (MT_lying_T_T : ∀ c g, mt_lying_T_T c = some g → MtM P w K mg base 5 "lying" c .S g) (M_q_put : FnM P w K mg base 4 "_law_put" .S d_q_put) (MT_added_T_T : ∀ c g, mt_added_T_T c = some g → MtM P w K mg base 6 "added" c .S g) (MT_over_T_T : ∀ c g, mt_over_T_T c = some g → MtM P w K mg base 4 "over" c (.O .flat) g) (M_q_elements : FnM P w K mg base 1 "_law_elements" .S d_q_elements) (M_q_plus : FnM P w K mg base 1 "_law_plus" .S d_q_plus) (M_q_near : FnM P w K mg base 1 "_law_near" .S d_q_near) (M_q_refused : FnM P w K mg base 6 "_law_refused" .S d_q_refused) {f : Addr} (cdv : Value) (A : Around) (outer : List PySem.Env) (s : Shared) (H : Hp) (E : XK) (hr : Room 11 (A.deeper (envOfC "law" (defScope s_law) s.heap.objs.size f cdv))) :
    RSs (cxOf (L2.CX P w) P w K mg base N_law "law" (defScope s_law) f cdv A outer s H E) (WD E) .S (defBody s_law) e_law :=
  rss_cons (rs_set 1 sc_law.nd (re_tup (ra_cons (re_ix hr (re_rd (re_lst (ra_cons (re_tup (ra_cons (re_int) (ra_nil))) (ra_cons (re_tup (ra_cons (re_int) (ra_nil))) (ra_cons (re_tup (ra_cons (re_int) (ra_nil))) (ra_cons (re_tup (ra_cons (re_int) (ra_cons (re_int) (ra_nil)))) (ra_cons (re_tup (ra_cons (re_int) (ra_nil))) (ra_cons (re_tup (ra_cons (re_int) (ra_cons (re_int) (ra_nil)))) (ra_cons (re_tup (ra_nil)) (ra_cons (re_tup (ra_cons (re_int) (ra_cons (re_int) (ra_nil)))) (ra_nil))))))))))) (re_rd (re_mod (re_rd (re_call M_q_cell (hr.mono (by decide)) (takes_of rfl rfl rfl rfl) (ra_cons (re_var 0) (ra_cons (re_int) (ra_nil))))) (re_rd (re_int))))) (ra_nil))))
    (rss_cons (rs_if (rt_cp (c_eq hr) (re_rd (re_mod (re_rd (re_call M_q_cell (hr.mono (by decide)) (takes_of rfl rfl rfl rfl) (ra_cons (re_var 0) (ra_cons (re_int) (ra_nil))))) (re_rd (re_int)))) (re_rd (re_int)))
    (rss_cons (rs_set 2 sc_law.nd (re_tup (ra_cons (re_ix hr (re_rd (re_lst (ra_cons (re_tup (ra_cons (re_int) (ra_nil))) (ra_cons (re_tup (ra_cons (re_int) (ra_nil))) (ra_cons (re_tup (ra_cons (re_int) (ra_nil))) (ra_cons (re_tup (ra_cons (re_int) (ra_cons (re_int) (ra_nil)))) (ra_nil))))))) (re_rd (re_mod (re_rd (re_call M_q_cell (hr.mono (by decide)) (takes_of rfl rfl rfl rfl) (ra_cons (re_var 0) (ra_cons (re_int) (ra_nil))))) (re_rd (re_int))))) (ra_nil))))
    (rss_one (rs_set 1 sc_law.nd (re_call M_q_laid (hr.mono (by decide)) (takes_of rfl rfl rfl rfl) (ra_cons (re_var 2) (ra_cons (re_ix hr (re_rd (re_lst (ra_cons (re_tup (ra_cons (re_int) (ra_nil))) (ra_cons (re_tup (ra_cons (re_int) (ra_nil))) (ra_nil))))) (re_rd (re_mod (re_rd (re_call M_q_cell (hr.mono (by decide)) (takes_of rfl rfl rfl rfl) (ra_cons (re_var 0) (ra_cons (re_int) (ra_nil))))) (re_rd (re_int))))) (ra_cons (re_var 0) (ra_cons (re_int) (ra_nil)))))))))
    (rss_nil))
    (rss_cons (rs_set 3 sc_law.nd (re_ix hr (re_rd (re_lst (ra_cons (re_tup (ra_cons (re_int) (ra_nil))) (ra_cons (re_tup (ra_cons (re_int) (ra_nil))) (ra_cons (re_tup (ra_cons (re_int) (ra_cons (re_int) (ra_nil)))) (ra_cons (re_tup (ra_cons (re_int) (ra_nil))) (ra_cons (re_tup (ra_cons (re_int) (ra_nil))) (ra_cons (re_tup (ra_nil)) (ra_nil))))))))) (re_rd (re_mod (re_rd (re_call M_q_cell (hr.mono (by decide)) (takes_of rfl rfl rfl rfl) (ra_cons (re_var 0) (ra_cons (re_int) (ra_nil))))) (re_rd (re_int))))))
    (rss_cons (rs_set 4 sc_law.nd (re_call M_q_laid (hr.mono (by decide)) (takes_of rfl rfl rfl rfl) (ra_cons (re_var 1) (ra_cons (re_var 3) (ra_cons (re_var 0) (ra_cons (re_int) (ra_nil)))))))
    (rss_cons (rs_set 5 sc_law.nd (re_call M_q_made (hr.mono (by decide)) (takes_of rfl rfl rfl rfl) (ra_cons (re_var 4) (ra_nil))))
    (rss_cons (rs_set 6 sc_law.nd (re_blt (b_tuple T.n_tuple) (rar_cons (re_rd (re_lc [("_law_number", 20)] rfl sc_law.nd (re_iter (re_var 3)) (blkOk_by (N := N_law) (sc := defScope s_law) (by decide +kernel)) (fun _ _ _ _ _ _ => by exact (gN 20 sc_law.nd)) (fun _ _ _ _ _ => by exact (rts_nil)) (fun _ _ _ _ _ => by exact (re_int)))) (rar_nil))))
    (rss_cons (rs_set 7 sc_law.nd (re_call M_q_all (hr.mono (by decide)) (takes_of rfl rfl rfl rfl) (ra_cons (re_var 1) (ra_nil))))
    (rss_cons (rs_set 8 sc_law.nd (re_ix hr (re_rd (re_call M_q_backs (hr.mono (by decide)) (takes_of rfl rfl rfl rfl) (ra_cons (re_var 1) (ra_nil)))) (re_rd (re_ix hr (re_rd (re_ix hr (re_rd (re_var 4)) (re_rd (re_int)))) (re_rd (re_tup (ra_cons (re_var 6) (ra_cons (re_var 6) (ra_nil)))))))))
    (rss_cons (rs_setO 9 sc_law.nd (re_dic0))
    (rss_cons (rs_for (passes_of rfl) rfl (by exact (re_iter (re_var 7))) (by exact (gN 10 sc_law.nd))
    (by exact (rss_cons (rs_setItem 9 hr (re_meth MT_lying_T_T (hr.mono (by decide)) (takes_of rfl rfl rfl rfl) (re_var 5) (ra_cons (re_var 10) (ra_nil))) (re_rd (re_var 10)))
    (rss_one (rs_if (rt_pw (rw_or (rt_not (rt_val (re_blt (b_is T.isM T.n_isinstance) (rar_cons (re_rd (re_ix hr (re_varR 9) (re_rd (re_var 10)))) (rar_cons (re_rd (re_ty T.n_tuple boot_ty_tuple)) (rar_nil)))))) (rw_or1 (rt_cp (c_ne hr) (re_rd (re_ix hr (re_varR 9) (re_rd (re_var 10)))) (re_rd (re_tup (ra_cons (re_call M_q_put (hr.mono (by decide)) (takes_of rfl rfl rfl rfl) (ra_cons (re_var 1) (ra_cons (re_var 10) (ra_cons (re_var 8) (ra_nil))))) (ra_cons (re_var 6) (ra_nil)))))))))
    (rss_one (rs_ret (re_bl)))
    (rss_nil))))))
    (rss_cons (rs_for (passes_of rfl) rfl (by exact (ri_range1 (b := true) T.n_range (rar_cons (re_rd (re_int)) (rar_nil)))) (by exact (gN 11 sc_law.nd))
    (by exact (rss_cons (rs_set 10 sc_law.nd (re_ix hr (re_rd (re_var 7)) (re_rd (re_mod (re_rd (re_call M_q_cell (hr.mono (by decide)) (takes_of rfl rfl rfl rfl) (ra_cons (re_var 0) (ra_cons (re_add (re_rd (re_int)) (re_rd (re_mul (re_rd (re_int)) (re_rd (re_var 11))))) (ra_nil))))) (re_rd (re_blt (b_len T.n_len) (rar_cons (re_rd (re_var 7)) (rar_nil))))))))
    (rss_cons (rs_set 12 sc_law.nd (re_ix hr (re_rd (re_var 7)) (re_rd (re_mod (re_rd (re_call M_q_cell (hr.mono (by decide)) (takes_of rfl rfl rfl rfl) (ra_cons (re_var 0) (ra_cons (re_add (re_rd (re_int)) (re_rd (re_mul (re_rd (re_int)) (re_rd (re_var 11))))) (ra_nil))))) (re_rd (re_blt (b_len T.n_len) (rar_cons (re_rd (re_var 7)) (rar_nil))))))))
    (rss_one (rs_if (rt_cp (c_ne hr) (re_rd (re_meth MT_added_T_T (hr.mono (by decide)) (takes_of rfl rfl rfl rfl) (re_var 5) (ra_cons (re_ix hr (re_varR 9) (re_rd (re_var 10))) (ra_cons (re_ix hr (re_varR 9) (re_rd (re_var 12))) (ra_nil))))) (re_rd (re_ix hr (re_varR 9) (re_rd (re_call M_q_put (hr.mono (by decide)) (takes_of rfl rfl rfl rfl) (ra_cons (re_var 1) (ra_cons (re_var 10) (ra_cons (re_var 12) (ra_nil)))))))))
    (rss_one (rs_ret (re_bl)))
    (rss_nil)))))))
    (rss_cons (rs_if (rt_pw (rw_or (rt_cp (c_ne hr) (re_rd (re_sortV hr rfl T.n_sorted (re_varR 9))) (re_rd (re_meth MT_over_T_T (hr.mono (by decide)) (takes_of rfl rfl rfl rfl) (re_var 5) (ra_cons (re_var 6) (ra_nil))))) (rw_or1 (rt_cp (c_ne hr) (re_rd (re_meth MT_over_T_T (hr.mono (by decide)) (takes_of rfl rfl rfl rfl) (re_call M_q_made (hr.mono (by decide)) (takes_of rfl rfl rfl rfl) (ra_cons (re_var 4) (ra_nil))) (ra_cons (re_var 6) (ra_nil)))) (re_rd (re_meth MT_over_T_T (hr.mono (by decide)) (takes_of rfl rfl rfl rfl) (re_var 5) (ra_cons (re_var 6) (ra_nil))))))))
    (rss_one (rs_ret (re_bl)))
    (rss_nil))
    (rss_cons (rs_for (passes_of rfl) rfl (by exact (re_iter (re_call M_q_elements (hr.mono (by decide)) (takes_of rfl rfl rfl rfl) (ra_cons (re_var 3) (ra_nil))))) (by exact (gN 13 sc_law.nd))
    (by exact (rss_one (rs_for (passes_of rfl) rfl (by exact (ri_range1 (b := true) T.n_range (rar_cons (re_rd (re_int)) (rar_nil)))) (by exact (gN 14 sc_law.nd))
    (by exact (rss_cons (rs_setO 15 sc_law.nd (re_meth MT_over_T_T (hr.mono (by decide)) (takes_of rfl rfl rfl rfl) (re_var 5) (ra_cons (re_var 13) (ra_nil))))
    (rss_cons (rs_if (rt_pw (rw_or (rt_not (rt_val (re_blt (b_is T.isM T.n_isinstance) (rar_cons (re_varR 15) (rar_cons (re_rd (re_ty T.n_list boot_ty_list)) (rar_nil)))))) (rw_or1 (rt_cp (c_ne hr) (re_varR 15) (re_rd (re_lc [("_law_a", 10)] rfl sc_law.nd (re_iter (re_var 7)) (blkOk_by (N := N_law) (sc := defScope s_law) (by decide +kernel)) (fun _ _ _ _ _ _ => by exact (gN 10 sc_law.nd)) (fun _ _ _ _ _ => by exact (rts_nil)) (fun _ _ _ _ _ => by exact (re_tup (ra_cons (re_var 10) (ra_cons (re_var 13) (ra_nil)))))))))))
    (rss_one (rs_ret (re_bl)))
    (rss_nil))
    (rss_one (rs_clear 15)))))))))
    (rss_cons (rs_set 16 sc_law.nd (re_call M_q_elements (hr.mono (by decide)) (takes_of rfl rfl rfl rfl) (ra_cons (re_var 3) (ra_nil))))
    (rss_cons (rs_set 13 sc_law.nd (re_ix hr (re_rd (re_var 16)) (re_rd (re_mod (re_rd (re_call M_q_cell (hr.mono (by decide)) (takes_of rfl rfl rfl rfl) (ra_cons (re_var 0) (ra_cons (re_int) (ra_nil))))) (re_rd (re_blt (b_len T.n_len) (rar_cons (re_rd (re_var 16)) (rar_nil))))))))
    (rss_cons (rs_set 17 sc_law.nd (re_ix hr (re_rd (re_var 16)) (re_rd (re_mod (re_rd (re_call M_q_cell (hr.mono (by decide)) (takes_of rfl rfl rfl rfl) (ra_cons (re_var 0) (ra_cons (re_int) (ra_nil))))) (re_rd (re_blt (b_len T.n_len) (rar_cons (re_rd (re_var 16)) (rar_nil))))))))
    (rss_cons (rs_if (rt_cp (c_notIn hr) (re_rd (re_meth MT_added_T_T (hr.mono (by decide)) (takes_of rfl rfl rfl rfl) (re_var 5) (ra_cons (re_ix hr (re_rd (re_meth MT_over_T_T (hr.mono (by decide)) (takes_of rfl rfl rfl rfl) (re_var 5) (ra_cons (re_var 13) (ra_nil)))) (re_rd (re_neg (re_rd (re_int))))) (ra_cons (re_ix hr (re_rd (re_meth MT_over_T_T (hr.mono (by decide)) (takes_of rfl rfl rfl rfl) (re_var 5) (ra_cons (re_var 17) (ra_nil)))) (re_rd (re_int))) (ra_nil))))) (re_rd (re_meth MT_over_T_T (hr.mono (by decide)) (takes_of rfl rfl rfl rfl) (re_var 5) (ra_cons (re_call M_q_plus (hr.mono (by decide)) (takes_of rfl rfl rfl rfl) (ra_cons (re_var 3) (ra_cons (re_var 13) (ra_cons (re_var 17) (ra_nil))))) (ra_nil)))))
    (rss_one (rs_ret (re_bl)))
    (rss_nil))
    (rss_cons (rs_set 18 sc_law.nd (re_mod (re_rd (re_div (re_rd (re_call M_q_cell (hr.mono (by decide)) (takes_of rfl rfl rfl rfl) (ra_cons (re_var 0) (ra_cons (re_int) (ra_nil))))) (re_rd (re_int)))) (re_rd (re_int))))
    (rss_cons (rs_set 19 sc_law.nd (re_add (re_rd (re_call M_q_near (hr.mono (by decide)) (takes_of rfl rfl rfl rfl) (ra_cons (re_ix hr (re_rd (re_lst (ra_cons (re_ix hr (re_rd (re_var 7)) (re_rd (re_neg (re_rd (re_int))))) (ra_cons (re_ix hr (re_rd (re_var 16)) (re_rd (re_neg (re_rd (re_int))))) (ra_nil))))) (re_rd (re_var 18))) (ra_nil)))) (re_rd (re_lst (ra_cons (re_non) (ra_cons (re_int) (ra_cons (re_share (re_lst (ra_nil))) (ra_cons (re_str) (ra_cons (re_tup (ra_cons (re_neg (re_rd (re_int))) (ra_nil))) (ra_cons (re_tup (ra_cons (re_int) (ra_cons (re_int) (ra_nil)))) (ra_nil)))))))))))
    (rss_one (rs_ret (re_call M_q_refused (hr.mono (by decide)) (takes_of rfl rfl rfl rfl) (ra_cons (re_var 18) (ra_cons (re_var 5) (ra_cons (re_ix hr (re_rd (re_var 19)) (re_rd (re_mod (re_rd (re_call M_q_cell (hr.mono (by decide)) (takes_of rfl rfl rfl rfl) (ra_cons (re_var 0) (ra_cons (re_int) (ra_nil))))) (re_rd (re_blt (b_len T.n_len) (rar_cons (re_rd (re_var 19)) (rar_nil))))))) (ra_nil)))))))))))))))))))))))))
end
end
theorem all_mk {P q : Program} {w : World} {K : PySem.W.Frag} {h : Heap} {mg : Str → Option Value} {fa C_CarryError C_NoRounds C_NoElement C_NoLower C_NoUpper C_NoCarry C_NoTower C_Group C_Rounds C_Table C_Tower f_q_cell f_q_elements f_q_all f_q_plus f_q_put f_q_zero f_q_backs f_q_laid f_is_whole f_are_rounds f_Rounds_init f_Rounds_members f_Tower_members f_Rounds_has f_Group_look_at f_Rounds_put f_Group_added f_Tower_has f_Table_carry f_Tower_put f_break_of_three f_NoTower_init f_Rounds_nought f_Tower_init f_Group_size f_Rounds_is_even f_break_of_two f_Tower_is_even f_look_at_groups f_NoCarry_init f_Table_init f_q_made f_Rounds_backed f_Tower_backed f_Tower_nought f_Tower_lying f_Tower_over f_q_near f_q_refused f_law : Addr} (X : K.In h) (G : h.Ns mainGlobals mg) (hfa : mg "law" = some (.ref fa))
    {oc_q_cell kV_q_cell dc_q_cell pm_q_cell cd_q_cell ct_q_cell : Value} {od_q_cell an_q_cell : Option Addr} {sl_q_cell : Array (Option Value)}
    {oc_q_elements kV_q_elements dc_q_elements pm_q_elements cd_q_elements ct_q_elements : Value} {od_q_elements an_q_elements : Option Addr} {sl_q_elements : Array (Option Value)}
    {oc_q_all kV_q_all dc_q_all pm_q_all cd_q_all ct_q_all : Value} {od_q_all an_q_all : Option Addr} {sl_q_all : Array (Option Value)}
    {oc_q_plus kV_q_plus dc_q_plus pm_q_plus cd_q_plus ct_q_plus : Value} {od_q_plus an_q_plus : Option Addr} {sl_q_plus : Array (Option Value)}
    {oc_q_put kV_q_put dc_q_put pm_q_put cd_q_put ct_q_put : Value} {od_q_put an_q_put : Option Addr} {sl_q_put : Array (Option Value)}
    {oc_q_zero kV_q_zero dc_q_zero pm_q_zero cd_q_zero ct_q_zero : Value} {od_q_zero an_q_zero : Option Addr} {sl_q_zero : Array (Option Value)}
    {oc_q_backs kV_q_backs dc_q_backs pm_q_backs cd_q_backs ct_q_backs : Value} {od_q_backs an_q_backs : Option Addr} {sl_q_backs : Array (Option Value)}
    {oc_q_laid kV_q_laid dc_q_laid pm_q_laid cd_q_laid ct_q_laid : Value} {od_q_laid an_q_laid : Option Addr} {sl_q_laid : Array (Option Value)}
    {oc_is_whole kV_is_whole dc_is_whole pm_is_whole cd_is_whole ct_is_whole : Value} {od_is_whole an_is_whole : Option Addr} {sl_is_whole : Array (Option Value)}
    {oc_are_rounds kV_are_rounds dc_are_rounds pm_are_rounds cd_are_rounds ct_are_rounds : Value} {od_are_rounds an_are_rounds : Option Addr} {sl_are_rounds : Array (Option Value)}
    {oc_Rounds_init kV_Rounds_init dc_Rounds_init pm_Rounds_init cd_Rounds_init ct_Rounds_init : Value} {od_Rounds_init an_Rounds_init : Option Addr} {sl_Rounds_init : Array (Option Value)}
    {oc_Rounds_members kV_Rounds_members dc_Rounds_members pm_Rounds_members cd_Rounds_members ct_Rounds_members : Value} {od_Rounds_members an_Rounds_members : Option Addr} {sl_Rounds_members : Array (Option Value)}
    {oc_Tower_members kV_Tower_members dc_Tower_members pm_Tower_members cd_Tower_members ct_Tower_members : Value} {od_Tower_members an_Tower_members : Option Addr} {sl_Tower_members : Array (Option Value)}
    {oc_Rounds_has kV_Rounds_has dc_Rounds_has pm_Rounds_has cd_Rounds_has ct_Rounds_has : Value} {od_Rounds_has an_Rounds_has : Option Addr} {sl_Rounds_has : Array (Option Value)}
    {oc_Group_look_at kV_Group_look_at dc_Group_look_at pm_Group_look_at cd_Group_look_at ct_Group_look_at : Value} {od_Group_look_at an_Group_look_at : Option Addr} {sl_Group_look_at : Array (Option Value)}
    {oc_Rounds_put kV_Rounds_put dc_Rounds_put pm_Rounds_put cd_Rounds_put ct_Rounds_put : Value} {od_Rounds_put an_Rounds_put : Option Addr} {sl_Rounds_put : Array (Option Value)}
    {oc_Group_added kV_Group_added dc_Group_added pm_Group_added cd_Group_added ct_Group_added : Value} {od_Group_added an_Group_added : Option Addr} {sl_Group_added : Array (Option Value)}
    {oc_Tower_has kV_Tower_has dc_Tower_has pm_Tower_has cd_Tower_has ct_Tower_has : Value} {od_Tower_has an_Tower_has : Option Addr} {sl_Tower_has : Array (Option Value)}
    {oc_Table_carry kV_Table_carry dc_Table_carry pm_Table_carry cd_Table_carry ct_Table_carry : Value} {od_Table_carry an_Table_carry : Option Addr} {sl_Table_carry : Array (Option Value)}
    {oc_Tower_put kV_Tower_put dc_Tower_put pm_Tower_put cd_Tower_put ct_Tower_put : Value} {od_Tower_put an_Tower_put : Option Addr} {sl_Tower_put : Array (Option Value)}
    {oc_break_of_three kV_break_of_three dc_break_of_three pm_break_of_three cd_break_of_three ct_break_of_three : Value} {od_break_of_three an_break_of_three : Option Addr} {sl_break_of_three : Array (Option Value)}
    {oc_NoTower_init kV_NoTower_init dc_NoTower_init pm_NoTower_init cd_NoTower_init ct_NoTower_init : Value} {od_NoTower_init an_NoTower_init : Option Addr} {sl_NoTower_init : Array (Option Value)}
    {oc_Rounds_nought kV_Rounds_nought dc_Rounds_nought pm_Rounds_nought cd_Rounds_nought ct_Rounds_nought : Value} {od_Rounds_nought an_Rounds_nought : Option Addr} {sl_Rounds_nought : Array (Option Value)}
    {oc_Tower_init kV_Tower_init dc_Tower_init pm_Tower_init cd_Tower_init ct_Tower_init : Value} {od_Tower_init an_Tower_init : Option Addr} {sl_Tower_init : Array (Option Value)}
    {oc_Group_size kV_Group_size dc_Group_size pm_Group_size cd_Group_size ct_Group_size : Value} {od_Group_size an_Group_size : Option Addr} {sl_Group_size : Array (Option Value)}
    {oc_Rounds_is_even kV_Rounds_is_even dc_Rounds_is_even pm_Rounds_is_even cd_Rounds_is_even ct_Rounds_is_even : Value} {od_Rounds_is_even an_Rounds_is_even : Option Addr} {sl_Rounds_is_even : Array (Option Value)}
    {oc_break_of_two kV_break_of_two dc_break_of_two pm_break_of_two cd_break_of_two ct_break_of_two : Value} {od_break_of_two an_break_of_two : Option Addr} {sl_break_of_two : Array (Option Value)}
    {oc_Tower_is_even kV_Tower_is_even dc_Tower_is_even pm_Tower_is_even cd_Tower_is_even ct_Tower_is_even : Value} {od_Tower_is_even an_Tower_is_even : Option Addr} {sl_Tower_is_even : Array (Option Value)}
    {oc_look_at_groups kV_look_at_groups dc_look_at_groups pm_look_at_groups cd_look_at_groups ct_look_at_groups : Value} {od_look_at_groups an_look_at_groups : Option Addr} {sl_look_at_groups : Array (Option Value)}
    {oc_NoCarry_init kV_NoCarry_init dc_NoCarry_init pm_NoCarry_init cd_NoCarry_init ct_NoCarry_init : Value} {od_NoCarry_init an_NoCarry_init : Option Addr} {sl_NoCarry_init : Array (Option Value)}
    {oc_Table_init kV_Table_init dc_Table_init pm_Table_init cd_Table_init ct_Table_init : Value} {od_Table_init an_Table_init : Option Addr} {sl_Table_init : Array (Option Value)}
    {oc_q_made kV_q_made dc_q_made pm_q_made cd_q_made ct_q_made : Value} {od_q_made an_q_made : Option Addr} {sl_q_made : Array (Option Value)}
    {oc_Rounds_backed kV_Rounds_backed dc_Rounds_backed pm_Rounds_backed cd_Rounds_backed ct_Rounds_backed : Value} {od_Rounds_backed an_Rounds_backed : Option Addr} {sl_Rounds_backed : Array (Option Value)}
    {oc_Tower_backed kV_Tower_backed dc_Tower_backed pm_Tower_backed cd_Tower_backed ct_Tower_backed : Value} {od_Tower_backed an_Tower_backed : Option Addr} {sl_Tower_backed : Array (Option Value)}
    {oc_Tower_nought kV_Tower_nought dc_Tower_nought pm_Tower_nought cd_Tower_nought ct_Tower_nought : Value} {od_Tower_nought an_Tower_nought : Option Addr} {sl_Tower_nought : Array (Option Value)}
    {oc_Tower_lying kV_Tower_lying dc_Tower_lying pm_Tower_lying cd_Tower_lying ct_Tower_lying : Value} {od_Tower_lying an_Tower_lying : Option Addr} {sl_Tower_lying : Array (Option Value)}
    {oc_Tower_over kV_Tower_over dc_Tower_over pm_Tower_over cd_Tower_over ct_Tower_over : Value} {od_Tower_over an_Tower_over : Option Addr} {sl_Tower_over : Array (Option Value)}
    {oc_q_near kV_q_near dc_q_near pm_q_near cd_q_near ct_q_near : Value} {od_q_near an_q_near : Option Addr} {sl_q_near : Array (Option Value)}
    {oc_q_refused kV_q_refused dc_q_refused pm_q_refused cd_q_refused ct_q_refused : Value} {od_q_refused an_q_refused : Option Addr} {sl_q_refused : Array (Option Value)}
    {oc_law kV_law dc_law pm_law cd_law ct_law : Value} {od_law an_law : Option Addr} {sl_law : Array (Option Value)}
    {t_MOST_ROUNDS : Tok}
    {t_MOST_ELEMENTS : Tok}
    {nm_NoTower q_NoTower : Str} {NA_NoTower : Addr} {bs_NoTower bm_NoTower : List Value} {sn_NoTower : List Str} {sub_NoTower : List Value} {ab_NoTower : Bool} {col_NoTower : Option Bool} {dd_NoTower : Option Addr} {k0_NoTower k1_NoTower k2_NoTower k3_NoTower k5_NoTower : Option Value}
    {t_MOST_LOWER : Tok}
    {t_MOST_UPPER : Tok}
    {nm_NoCarry q_NoCarry : Str} {NA_NoCarry : Addr} {bs_NoCarry bm_NoCarry : List Value} {sn_NoCarry : List Str} {sub_NoCarry : List Value} {ab_NoCarry : Bool} {col_NoCarry : Option Bool} {dd_NoCarry : Option Addr} {k0_NoCarry k1_NoCarry k2_NoCarry k3_NoCarry k5_NoCarry : Option Value}
    (aC_CarryError : PySem.W.nsIn K mainGlobals "CarryError" = some (some (.ref C_CarryError)))
    (aC_NoRounds : PySem.W.nsIn K mainGlobals "NoRounds" = some (some (.ref C_NoRounds)))
    (aC_NoElement : PySem.W.nsIn K mainGlobals "NoElement" = some (some (.ref C_NoElement)))
    (aC_NoLower : PySem.W.nsIn K mainGlobals "NoLower" = some (some (.ref C_NoLower)))
    (aC_NoUpper : PySem.W.nsIn K mainGlobals "NoUpper" = some (some (.ref C_NoUpper)))
    (aC_NoCarry : PySem.W.nsIn K mainGlobals "NoCarry" = some (some (.ref C_NoCarry)))
    (aC_NoTower : PySem.W.nsIn K mainGlobals "NoTower" = some (some (.ref C_NoTower)))
    (aC_Group : PySem.W.nsIn K mainGlobals "Group" = some (some (.ref C_Group)))
    (aC_Rounds : PySem.W.nsIn K mainGlobals "Rounds" = some (some (.ref C_Rounds)))
    (aC_Table : PySem.W.nsIn K mainGlobals "Table" = some (some (.ref C_Table)))
    (aC_Tower : PySem.W.nsIn K mainGlobals "Tower" = some (some (.ref C_Tower)))
    (a_q_cell : PySem.W.nsIn K mainGlobals "_law_cell" = some (some (.ref f_q_cell)))
    (l_q_cell : K.lookup f_q_cell = some ⟨oc_q_cell, od_q_cell, .func (PySem.W.fnOf "_law_cell" "_law_cell" (defArgs s_q_cell) (defBody s_q_cell) (defScope s_q_cell) .none kV_q_cell dc_q_cell pm_q_cell an_q_cell cd_q_cell ct_q_cell), sl_q_cell⟩)
    (c_q_cell : PySem.W.codeIn K cd_q_cell "_law_cell" = true) (k_q_cell : PySem.W.keepIn K (.ref f_q_cell) = true)
    (a_q_elements : PySem.W.nsIn K mainGlobals "_law_elements" = some (some (.ref f_q_elements)))
    (l_q_elements : K.lookup f_q_elements = some ⟨oc_q_elements, od_q_elements, .func (PySem.W.fnOf "_law_elements" "_law_elements" (defArgs s_q_elements) (defBody s_q_elements) (defScope s_q_elements) .none kV_q_elements dc_q_elements pm_q_elements an_q_elements cd_q_elements ct_q_elements), sl_q_elements⟩)
    (c_q_elements : PySem.W.codeIn K cd_q_elements "_law_elements" = true) (k_q_elements : PySem.W.keepIn K (.ref f_q_elements) = true)
    (a_q_all : PySem.W.nsIn K mainGlobals "_law_all" = some (some (.ref f_q_all)))
    (l_q_all : K.lookup f_q_all = some ⟨oc_q_all, od_q_all, .func (PySem.W.fnOf "_law_all" "_law_all" (defArgs s_q_all) (defBody s_q_all) (defScope s_q_all) .none kV_q_all dc_q_all pm_q_all an_q_all cd_q_all ct_q_all), sl_q_all⟩)
    (c_q_all : PySem.W.codeIn K cd_q_all "_law_all" = true) (k_q_all : PySem.W.keepIn K (.ref f_q_all) = true)
    (a_q_plus : PySem.W.nsIn K mainGlobals "_law_plus" = some (some (.ref f_q_plus)))
    (l_q_plus : K.lookup f_q_plus = some ⟨oc_q_plus, od_q_plus, .func (PySem.W.fnOf "_law_plus" "_law_plus" (defArgs s_q_plus) (defBody s_q_plus) (defScope s_q_plus) .none kV_q_plus dc_q_plus pm_q_plus an_q_plus cd_q_plus ct_q_plus), sl_q_plus⟩)
    (c_q_plus : PySem.W.codeIn K cd_q_plus "_law_plus" = true) (k_q_plus : PySem.W.keepIn K (.ref f_q_plus) = true)
    (a_q_put : PySem.W.nsIn K mainGlobals "_law_put" = some (some (.ref f_q_put)))
    (l_q_put : K.lookup f_q_put = some ⟨oc_q_put, od_q_put, .func (PySem.W.fnOf "_law_put" "_law_put" (defArgs s_q_put) (defBody s_q_put) (defScope s_q_put) .none kV_q_put dc_q_put pm_q_put an_q_put cd_q_put ct_q_put), sl_q_put⟩)
    (c_q_put : PySem.W.codeIn K cd_q_put "_law_put" = true) (k_q_put : PySem.W.keepIn K (.ref f_q_put) = true)
    (a_q_zero : PySem.W.nsIn K mainGlobals "_law_zero" = some (some (.ref f_q_zero)))
    (l_q_zero : K.lookup f_q_zero = some ⟨oc_q_zero, od_q_zero, .func (PySem.W.fnOf "_law_zero" "_law_zero" (defArgs s_q_zero) (defBody s_q_zero) (defScope s_q_zero) .none kV_q_zero dc_q_zero pm_q_zero an_q_zero cd_q_zero ct_q_zero), sl_q_zero⟩)
    (c_q_zero : PySem.W.codeIn K cd_q_zero "_law_zero" = true) (k_q_zero : PySem.W.keepIn K (.ref f_q_zero) = true)
    (a_q_backs : PySem.W.nsIn K mainGlobals "_law_backs" = some (some (.ref f_q_backs)))
    (l_q_backs : K.lookup f_q_backs = some ⟨oc_q_backs, od_q_backs, .func (PySem.W.fnOf "_law_backs" "_law_backs" (defArgs s_q_backs) (defBody s_q_backs) (defScope s_q_backs) .none kV_q_backs dc_q_backs pm_q_backs an_q_backs cd_q_backs ct_q_backs), sl_q_backs⟩)
    (c_q_backs : PySem.W.codeIn K cd_q_backs "_law_backs" = true) (k_q_backs : PySem.W.keepIn K (.ref f_q_backs) = true)
    (a_q_laid : PySem.W.nsIn K mainGlobals "_law_laid" = some (some (.ref f_q_laid)))
    (l_q_laid : K.lookup f_q_laid = some ⟨oc_q_laid, od_q_laid, .func (PySem.W.fnOf "_law_laid" "_law_laid" (defArgs s_q_laid) (defBody s_q_laid) (defScope s_q_laid) .none kV_q_laid dc_q_laid pm_q_laid an_q_laid cd_q_laid ct_q_laid), sl_q_laid⟩)
    (c_q_laid : PySem.W.codeIn K cd_q_laid "_law_laid" = true) (k_q_laid : PySem.W.keepIn K (.ref f_q_laid) = true)
    (a_is_whole : PySem.W.nsIn K mainGlobals "is_whole" = some (some (.ref f_is_whole)))
    (l_is_whole : K.lookup f_is_whole = some ⟨oc_is_whole, od_is_whole, .func (PySem.W.fnOf "is_whole" "is_whole" (defArgs s_is_whole) (defBody s_is_whole) (defScope s_is_whole) .none kV_is_whole dc_is_whole pm_is_whole an_is_whole cd_is_whole ct_is_whole), sl_is_whole⟩)
    (c_is_whole : PySem.W.codeIn K cd_is_whole "is_whole" = true) (k_is_whole : PySem.W.keepIn K (.ref f_is_whole) = true)
    (a_are_rounds : PySem.W.nsIn K mainGlobals "are_rounds" = some (some (.ref f_are_rounds)))
    (l_are_rounds : K.lookup f_are_rounds = some ⟨oc_are_rounds, od_are_rounds, .func (PySem.W.fnOf "are_rounds" "are_rounds" (defArgs s_are_rounds) (defBody s_are_rounds) (defScope s_are_rounds) .none kV_are_rounds dc_are_rounds pm_are_rounds an_are_rounds cd_are_rounds ct_are_rounds), sl_are_rounds⟩)
    (c_are_rounds : PySem.W.codeIn K cd_are_rounds "are_rounds" = true) (k_are_rounds : PySem.W.keepIn K (.ref f_are_rounds) = true)
    (a_Rounds_init : PySem.W.findIn K (.ref C_Rounds) "__init__" = some (some (.ref f_Rounds_init)))
    (l_Rounds_init : K.lookup f_Rounds_init = some ⟨oc_Rounds_init, od_Rounds_init, .func (PySem.W.fnOf "__init__" "Rounds.__init__" (defArgs s_Rounds_init) (defBody s_Rounds_init) (defScope s_Rounds_init) .none kV_Rounds_init dc_Rounds_init pm_Rounds_init an_Rounds_init cd_Rounds_init ct_Rounds_init), sl_Rounds_init⟩)
    (c_Rounds_init : PySem.W.codeIn K cd_Rounds_init "Rounds.__init__" = true) (k_Rounds_init : PySem.W.keepIn K (.ref f_Rounds_init) = true)
    (i_Rounds_init : PySem.W.isFn K (.ref f_Rounds_init) = true)
    (a_Rounds_members : PySem.W.findIn K (.ref C_Rounds) "members" = some (some (.ref f_Rounds_members)))
    (l_Rounds_members : K.lookup f_Rounds_members = some ⟨oc_Rounds_members, od_Rounds_members, .func (PySem.W.fnOf "members" "Rounds.members" (defArgs s_Rounds_members) (defBody s_Rounds_members) (defScope s_Rounds_members) .none kV_Rounds_members dc_Rounds_members pm_Rounds_members an_Rounds_members cd_Rounds_members ct_Rounds_members), sl_Rounds_members⟩)
    (c_Rounds_members : PySem.W.codeIn K cd_Rounds_members "Rounds.members" = true) (k_Rounds_members : PySem.W.keepIn K (.ref f_Rounds_members) = true)
    (i_Rounds_members : PySem.W.isFn K (.ref f_Rounds_members) = true)
    (a_Tower_members : PySem.W.findIn K (.ref C_Tower) "members" = some (some (.ref f_Tower_members)))
    (l_Tower_members : K.lookup f_Tower_members = some ⟨oc_Tower_members, od_Tower_members, .func (PySem.W.fnOf "members" "Tower.members" (defArgs s_Tower_members) (defBody s_Tower_members) (defScope s_Tower_members) .none kV_Tower_members dc_Tower_members pm_Tower_members an_Tower_members cd_Tower_members ct_Tower_members), sl_Tower_members⟩)
    (c_Tower_members : PySem.W.codeIn K cd_Tower_members "Tower.members" = true) (k_Tower_members : PySem.W.keepIn K (.ref f_Tower_members) = true)
    (i_Tower_members : PySem.W.isFn K (.ref f_Tower_members) = true)
    (a_Rounds_has : PySem.W.findIn K (.ref C_Rounds) "has" = some (some (.ref f_Rounds_has)))
    (l_Rounds_has : K.lookup f_Rounds_has = some ⟨oc_Rounds_has, od_Rounds_has, .func (PySem.W.fnOf "has" "Rounds.has" (defArgs s_Rounds_has) (defBody s_Rounds_has) (defScope s_Rounds_has) .none kV_Rounds_has dc_Rounds_has pm_Rounds_has an_Rounds_has cd_Rounds_has ct_Rounds_has), sl_Rounds_has⟩)
    (c_Rounds_has : PySem.W.codeIn K cd_Rounds_has "Rounds.has" = true) (k_Rounds_has : PySem.W.keepIn K (.ref f_Rounds_has) = true)
    (i_Rounds_has : PySem.W.isFn K (.ref f_Rounds_has) = true)
    (a_Group_look_at : PySem.W.findIn K (.ref C_Group) "look_at" = some (some (.ref f_Group_look_at)))
    (l_Group_look_at : K.lookup f_Group_look_at = some ⟨oc_Group_look_at, od_Group_look_at, .func (PySem.W.fnOf "look_at" "Group.look_at" (defArgs s_Group_look_at) (defBody s_Group_look_at) (defScope s_Group_look_at) .none kV_Group_look_at dc_Group_look_at pm_Group_look_at an_Group_look_at cd_Group_look_at ct_Group_look_at), sl_Group_look_at⟩)
    (c_Group_look_at : PySem.W.codeIn K cd_Group_look_at "Group.look_at" = true) (k_Group_look_at : PySem.W.keepIn K (.ref f_Group_look_at) = true)
    (i_Group_look_at : PySem.W.isFn K (.ref f_Group_look_at) = true)
    (a_Rounds_put : PySem.W.findIn K (.ref C_Rounds) "put" = some (some (.ref f_Rounds_put)))
    (l_Rounds_put : K.lookup f_Rounds_put = some ⟨oc_Rounds_put, od_Rounds_put, .func (PySem.W.fnOf "put" "Rounds.put" (defArgs s_Rounds_put) (defBody s_Rounds_put) (defScope s_Rounds_put) .none kV_Rounds_put dc_Rounds_put pm_Rounds_put an_Rounds_put cd_Rounds_put ct_Rounds_put), sl_Rounds_put⟩)
    (c_Rounds_put : PySem.W.codeIn K cd_Rounds_put "Rounds.put" = true) (k_Rounds_put : PySem.W.keepIn K (.ref f_Rounds_put) = true)
    (i_Rounds_put : PySem.W.isFn K (.ref f_Rounds_put) = true)
    (a_Group_added : PySem.W.findIn K (.ref C_Group) "added" = some (some (.ref f_Group_added)))
    (l_Group_added : K.lookup f_Group_added = some ⟨oc_Group_added, od_Group_added, .func (PySem.W.fnOf "added" "Group.added" (defArgs s_Group_added) (defBody s_Group_added) (defScope s_Group_added) .none kV_Group_added dc_Group_added pm_Group_added an_Group_added cd_Group_added ct_Group_added), sl_Group_added⟩)
    (c_Group_added : PySem.W.codeIn K cd_Group_added "Group.added" = true) (k_Group_added : PySem.W.keepIn K (.ref f_Group_added) = true)
    (i_Group_added : PySem.W.isFn K (.ref f_Group_added) = true)
    (a_Tower_has : PySem.W.findIn K (.ref C_Tower) "has" = some (some (.ref f_Tower_has)))
    (l_Tower_has : K.lookup f_Tower_has = some ⟨oc_Tower_has, od_Tower_has, .func (PySem.W.fnOf "has" "Tower.has" (defArgs s_Tower_has) (defBody s_Tower_has) (defScope s_Tower_has) .none kV_Tower_has dc_Tower_has pm_Tower_has an_Tower_has cd_Tower_has ct_Tower_has), sl_Tower_has⟩)
    (c_Tower_has : PySem.W.codeIn K cd_Tower_has "Tower.has" = true) (k_Tower_has : PySem.W.keepIn K (.ref f_Tower_has) = true)
    (i_Tower_has : PySem.W.isFn K (.ref f_Tower_has) = true)
    (a_Table_carry : PySem.W.findIn K (.ref C_Table) "carry" = some (some (.ref f_Table_carry)))
    (l_Table_carry : K.lookup f_Table_carry = some ⟨oc_Table_carry, od_Table_carry, .func (PySem.W.fnOf "carry" "Table.carry" (defArgs s_Table_carry) (defBody s_Table_carry) (defScope s_Table_carry) .none kV_Table_carry dc_Table_carry pm_Table_carry an_Table_carry cd_Table_carry ct_Table_carry), sl_Table_carry⟩)
    (c_Table_carry : PySem.W.codeIn K cd_Table_carry "Table.carry" = true) (k_Table_carry : PySem.W.keepIn K (.ref f_Table_carry) = true)
    (i_Table_carry : PySem.W.isFn K (.ref f_Table_carry) = true)
    (a_Tower_put : PySem.W.findIn K (.ref C_Tower) "put" = some (some (.ref f_Tower_put)))
    (l_Tower_put : K.lookup f_Tower_put = some ⟨oc_Tower_put, od_Tower_put, .func (PySem.W.fnOf "put" "Tower.put" (defArgs s_Tower_put) (defBody s_Tower_put) (defScope s_Tower_put) .none kV_Tower_put dc_Tower_put pm_Tower_put an_Tower_put cd_Tower_put ct_Tower_put), sl_Tower_put⟩)
    (c_Tower_put : PySem.W.codeIn K cd_Tower_put "Tower.put" = true) (k_Tower_put : PySem.W.keepIn K (.ref f_Tower_put) = true)
    (i_Tower_put : PySem.W.isFn K (.ref f_Tower_put) = true)
    (a_break_of_three : PySem.W.nsIn K mainGlobals "break_of_three" = some (some (.ref f_break_of_three)))
    (l_break_of_three : K.lookup f_break_of_three = some ⟨oc_break_of_three, od_break_of_three, .func (PySem.W.fnOf "break_of_three" "break_of_three" (defArgs s_break_of_three) (defBody s_break_of_three) (defScope s_break_of_three) .none kV_break_of_three dc_break_of_three pm_break_of_three an_break_of_three cd_break_of_three ct_break_of_three), sl_break_of_three⟩)
    (c_break_of_three : PySem.W.codeIn K cd_break_of_three "break_of_three" = true) (k_break_of_three : PySem.W.keepIn K (.ref f_break_of_three) = true)
    (a_NoTower_init : PySem.W.findIn K (.ref C_NoTower) "__init__" = some (some (.ref f_NoTower_init)))
    (l_NoTower_init : K.lookup f_NoTower_init = some ⟨oc_NoTower_init, od_NoTower_init, .func (PySem.W.fnOf "__init__" "NoTower.__init__" (defArgs s_NoTower_init) (defBody s_NoTower_init) (defScope s_NoTower_init) .none kV_NoTower_init dc_NoTower_init pm_NoTower_init an_NoTower_init cd_NoTower_init ct_NoTower_init), sl_NoTower_init⟩)
    (c_NoTower_init : PySem.W.codeIn K cd_NoTower_init "NoTower.__init__" = true) (k_NoTower_init : PySem.W.keepIn K (.ref f_NoTower_init) = true)
    (a_Rounds_nought : PySem.W.findIn K (.ref C_Rounds) "nought" = some (some (.ref f_Rounds_nought)))
    (l_Rounds_nought : K.lookup f_Rounds_nought = some ⟨oc_Rounds_nought, od_Rounds_nought, .func (PySem.W.fnOf "nought" "Rounds.nought" (defArgs s_Rounds_nought) (defBody s_Rounds_nought) (defScope s_Rounds_nought) .none kV_Rounds_nought dc_Rounds_nought pm_Rounds_nought an_Rounds_nought cd_Rounds_nought ct_Rounds_nought), sl_Rounds_nought⟩)
    (c_Rounds_nought : PySem.W.codeIn K cd_Rounds_nought "Rounds.nought" = true) (k_Rounds_nought : PySem.W.keepIn K (.ref f_Rounds_nought) = true)
    (i_Rounds_nought : PySem.W.isFn K (.ref f_Rounds_nought) = true)
    (a_Tower_init : PySem.W.findIn K (.ref C_Tower) "__init__" = some (some (.ref f_Tower_init)))
    (l_Tower_init : K.lookup f_Tower_init = some ⟨oc_Tower_init, od_Tower_init, .func (PySem.W.fnOf "__init__" "Tower.__init__" (defArgs s_Tower_init) (defBody s_Tower_init) (defScope s_Tower_init) .none kV_Tower_init dc_Tower_init pm_Tower_init an_Tower_init cd_Tower_init ct_Tower_init), sl_Tower_init⟩)
    (c_Tower_init : PySem.W.codeIn K cd_Tower_init "Tower.__init__" = true) (k_Tower_init : PySem.W.keepIn K (.ref f_Tower_init) = true)
    (i_Tower_init : PySem.W.isFn K (.ref f_Tower_init) = true)
    (a_Group_size : PySem.W.findIn K (.ref C_Group) "size" = some (some (.ref f_Group_size)))
    (l_Group_size : K.lookup f_Group_size = some ⟨oc_Group_size, od_Group_size, .func (PySem.W.fnOf "size" "Group.size" (defArgs s_Group_size) (defBody s_Group_size) (defScope s_Group_size) .none kV_Group_size dc_Group_size pm_Group_size an_Group_size cd_Group_size ct_Group_size), sl_Group_size⟩)
    (c_Group_size : PySem.W.codeIn K cd_Group_size "Group.size" = true) (k_Group_size : PySem.W.keepIn K (.ref f_Group_size) = true)
    (i_Group_size : PySem.W.isFn K (.ref f_Group_size) = true)
    (a_Rounds_is_even : PySem.W.findIn K (.ref C_Rounds) "is_even" = some (some (.ref f_Rounds_is_even)))
    (l_Rounds_is_even : K.lookup f_Rounds_is_even = some ⟨oc_Rounds_is_even, od_Rounds_is_even, .func (PySem.W.fnOf "is_even" "Rounds.is_even" (defArgs s_Rounds_is_even) (defBody s_Rounds_is_even) (defScope s_Rounds_is_even) .none kV_Rounds_is_even dc_Rounds_is_even pm_Rounds_is_even an_Rounds_is_even cd_Rounds_is_even ct_Rounds_is_even), sl_Rounds_is_even⟩)
    (c_Rounds_is_even : PySem.W.codeIn K cd_Rounds_is_even "Rounds.is_even" = true) (k_Rounds_is_even : PySem.W.keepIn K (.ref f_Rounds_is_even) = true)
    (i_Rounds_is_even : PySem.W.isFn K (.ref f_Rounds_is_even) = true)
    (a_break_of_two : PySem.W.nsIn K mainGlobals "break_of_two" = some (some (.ref f_break_of_two)))
    (l_break_of_two : K.lookup f_break_of_two = some ⟨oc_break_of_two, od_break_of_two, .func (PySem.W.fnOf "break_of_two" "break_of_two" (defArgs s_break_of_two) (defBody s_break_of_two) (defScope s_break_of_two) .none kV_break_of_two dc_break_of_two pm_break_of_two an_break_of_two cd_break_of_two ct_break_of_two), sl_break_of_two⟩)
    (c_break_of_two : PySem.W.codeIn K cd_break_of_two "break_of_two" = true) (k_break_of_two : PySem.W.keepIn K (.ref f_break_of_two) = true)
    (a_Tower_is_even : PySem.W.findIn K (.ref C_Tower) "is_even" = some (some (.ref f_Tower_is_even)))
    (l_Tower_is_even : K.lookup f_Tower_is_even = some ⟨oc_Tower_is_even, od_Tower_is_even, .func (PySem.W.fnOf "is_even" "Tower.is_even" (defArgs s_Tower_is_even) (defBody s_Tower_is_even) (defScope s_Tower_is_even) .none kV_Tower_is_even dc_Tower_is_even pm_Tower_is_even an_Tower_is_even cd_Tower_is_even ct_Tower_is_even), sl_Tower_is_even⟩)
    (c_Tower_is_even : PySem.W.codeIn K cd_Tower_is_even "Tower.is_even" = true) (k_Tower_is_even : PySem.W.keepIn K (.ref f_Tower_is_even) = true)
    (i_Tower_is_even : PySem.W.isFn K (.ref f_Tower_is_even) = true)
    (a_look_at_groups : PySem.W.nsIn K mainGlobals "look_at_groups" = some (some (.ref f_look_at_groups)))
    (l_look_at_groups : K.lookup f_look_at_groups = some ⟨oc_look_at_groups, od_look_at_groups, .func (PySem.W.fnOf "look_at_groups" "look_at_groups" (defArgs s_look_at_groups) (defBody s_look_at_groups) (defScope s_look_at_groups) .none kV_look_at_groups dc_look_at_groups pm_look_at_groups an_look_at_groups cd_look_at_groups ct_look_at_groups), sl_look_at_groups⟩)
    (c_look_at_groups : PySem.W.codeIn K cd_look_at_groups "look_at_groups" = true) (k_look_at_groups : PySem.W.keepIn K (.ref f_look_at_groups) = true)
    (a_NoCarry_init : PySem.W.findIn K (.ref C_NoCarry) "__init__" = some (some (.ref f_NoCarry_init)))
    (l_NoCarry_init : K.lookup f_NoCarry_init = some ⟨oc_NoCarry_init, od_NoCarry_init, .func (PySem.W.fnOf "__init__" "NoCarry.__init__" (defArgs s_NoCarry_init) (defBody s_NoCarry_init) (defScope s_NoCarry_init) .none kV_NoCarry_init dc_NoCarry_init pm_NoCarry_init an_NoCarry_init cd_NoCarry_init ct_NoCarry_init), sl_NoCarry_init⟩)
    (c_NoCarry_init : PySem.W.codeIn K cd_NoCarry_init "NoCarry.__init__" = true) (k_NoCarry_init : PySem.W.keepIn K (.ref f_NoCarry_init) = true)
    (a_Table_init : PySem.W.findIn K (.ref C_Table) "__init__" = some (some (.ref f_Table_init)))
    (l_Table_init : K.lookup f_Table_init = some ⟨oc_Table_init, od_Table_init, .func (PySem.W.fnOf "__init__" "Table.__init__" (defArgs s_Table_init) (defBody s_Table_init) (defScope s_Table_init) .none kV_Table_init dc_Table_init pm_Table_init an_Table_init cd_Table_init ct_Table_init), sl_Table_init⟩)
    (c_Table_init : PySem.W.codeIn K cd_Table_init "Table.__init__" = true) (k_Table_init : PySem.W.keepIn K (.ref f_Table_init) = true)
    (i_Table_init : PySem.W.isFn K (.ref f_Table_init) = true)
    (a_q_made : PySem.W.nsIn K mainGlobals "_law_made" = some (some (.ref f_q_made)))
    (l_q_made : K.lookup f_q_made = some ⟨oc_q_made, od_q_made, .func (PySem.W.fnOf "_law_made" "_law_made" (defArgs s_q_made) (defBody s_q_made) (defScope s_q_made) .none kV_q_made dc_q_made pm_q_made an_q_made cd_q_made ct_q_made), sl_q_made⟩)
    (c_q_made : PySem.W.codeIn K cd_q_made "_law_made" = true) (k_q_made : PySem.W.keepIn K (.ref f_q_made) = true)
    (a_Rounds_backed : PySem.W.findIn K (.ref C_Rounds) "backed" = some (some (.ref f_Rounds_backed)))
    (l_Rounds_backed : K.lookup f_Rounds_backed = some ⟨oc_Rounds_backed, od_Rounds_backed, .func (PySem.W.fnOf "backed" "Rounds.backed" (defArgs s_Rounds_backed) (defBody s_Rounds_backed) (defScope s_Rounds_backed) .none kV_Rounds_backed dc_Rounds_backed pm_Rounds_backed an_Rounds_backed cd_Rounds_backed ct_Rounds_backed), sl_Rounds_backed⟩)
    (c_Rounds_backed : PySem.W.codeIn K cd_Rounds_backed "Rounds.backed" = true) (k_Rounds_backed : PySem.W.keepIn K (.ref f_Rounds_backed) = true)
    (i_Rounds_backed : PySem.W.isFn K (.ref f_Rounds_backed) = true)
    (a_Tower_backed : PySem.W.findIn K (.ref C_Tower) "backed" = some (some (.ref f_Tower_backed)))
    (l_Tower_backed : K.lookup f_Tower_backed = some ⟨oc_Tower_backed, od_Tower_backed, .func (PySem.W.fnOf "backed" "Tower.backed" (defArgs s_Tower_backed) (defBody s_Tower_backed) (defScope s_Tower_backed) .none kV_Tower_backed dc_Tower_backed pm_Tower_backed an_Tower_backed cd_Tower_backed ct_Tower_backed), sl_Tower_backed⟩)
    (c_Tower_backed : PySem.W.codeIn K cd_Tower_backed "Tower.backed" = true) (k_Tower_backed : PySem.W.keepIn K (.ref f_Tower_backed) = true)
    (i_Tower_backed : PySem.W.isFn K (.ref f_Tower_backed) = true)
    (a_Tower_nought : PySem.W.findIn K (.ref C_Tower) "nought" = some (some (.ref f_Tower_nought)))
    (l_Tower_nought : K.lookup f_Tower_nought = some ⟨oc_Tower_nought, od_Tower_nought, .func (PySem.W.fnOf "nought" "Tower.nought" (defArgs s_Tower_nought) (defBody s_Tower_nought) (defScope s_Tower_nought) .none kV_Tower_nought dc_Tower_nought pm_Tower_nought an_Tower_nought cd_Tower_nought ct_Tower_nought), sl_Tower_nought⟩)
    (c_Tower_nought : PySem.W.codeIn K cd_Tower_nought "Tower.nought" = true) (k_Tower_nought : PySem.W.keepIn K (.ref f_Tower_nought) = true)
    (i_Tower_nought : PySem.W.isFn K (.ref f_Tower_nought) = true)
    (a_Tower_lying : PySem.W.findIn K (.ref C_Tower) "lying" = some (some (.ref f_Tower_lying)))
    (l_Tower_lying : K.lookup f_Tower_lying = some ⟨oc_Tower_lying, od_Tower_lying, .func (PySem.W.fnOf "lying" "Tower.lying" (defArgs s_Tower_lying) (defBody s_Tower_lying) (defScope s_Tower_lying) .none kV_Tower_lying dc_Tower_lying pm_Tower_lying an_Tower_lying cd_Tower_lying ct_Tower_lying), sl_Tower_lying⟩)
    (c_Tower_lying : PySem.W.codeIn K cd_Tower_lying "Tower.lying" = true) (k_Tower_lying : PySem.W.keepIn K (.ref f_Tower_lying) = true)
    (i_Tower_lying : PySem.W.isFn K (.ref f_Tower_lying) = true)
    (a_Tower_over : PySem.W.findIn K (.ref C_Tower) "over" = some (some (.ref f_Tower_over)))
    (l_Tower_over : K.lookup f_Tower_over = some ⟨oc_Tower_over, od_Tower_over, .func (PySem.W.fnOf "over" "Tower.over" (defArgs s_Tower_over) (defBody s_Tower_over) (defScope s_Tower_over) .none kV_Tower_over dc_Tower_over pm_Tower_over an_Tower_over cd_Tower_over ct_Tower_over), sl_Tower_over⟩)
    (c_Tower_over : PySem.W.codeIn K cd_Tower_over "Tower.over" = true) (k_Tower_over : PySem.W.keepIn K (.ref f_Tower_over) = true)
    (i_Tower_over : PySem.W.isFn K (.ref f_Tower_over) = true)
    (a_q_near : PySem.W.nsIn K mainGlobals "_law_near" = some (some (.ref f_q_near)))
    (l_q_near : K.lookup f_q_near = some ⟨oc_q_near, od_q_near, .func (PySem.W.fnOf "_law_near" "_law_near" (defArgs s_q_near) (defBody s_q_near) (defScope s_q_near) .none kV_q_near dc_q_near pm_q_near an_q_near cd_q_near ct_q_near), sl_q_near⟩)
    (c_q_near : PySem.W.codeIn K cd_q_near "_law_near" = true) (k_q_near : PySem.W.keepIn K (.ref f_q_near) = true)
    (a_q_refused : PySem.W.nsIn K mainGlobals "_law_refused" = some (some (.ref f_q_refused)))
    (l_q_refused : K.lookup f_q_refused = some ⟨oc_q_refused, od_q_refused, .func (PySem.W.fnOf "_law_refused" "_law_refused" (defArgs s_q_refused) (defBody s_q_refused) (defScope s_q_refused) .none kV_q_refused dc_q_refused pm_q_refused an_q_refused cd_q_refused ct_q_refused), sl_q_refused⟩)
    (c_q_refused : PySem.W.codeIn K cd_q_refused "_law_refused" = true) (k_q_refused : PySem.W.keepIn K (.ref f_q_refused) = true)
    (a_law : PySem.W.nsIn K mainGlobals "law" = some (some (.ref f_law)))
    (l_law : K.lookup f_law = some ⟨oc_law, od_law, .func (PySem.W.fnOf "law" "law" (defArgs s_law) (defBody s_law) (defScope s_law) .none kV_law dc_law pm_law an_law cd_law ct_law), sl_law⟩)
    (c_law : PySem.W.codeIn K cd_law "law" = true) (k_law : PySem.W.keepIn K (.ref f_law) = true)
    (z_len : PySem.W.nsIn K mainGlobals "len" = some none)
    (z_range : PySem.W.nsIn K mainGlobals "range" = some none)
    (z_tuple : PySem.W.nsIn K mainGlobals "tuple" = some none)
    (z_zip : PySem.W.nsIn K mainGlobals "zip" = some none)
    (z_enumerate : PySem.W.nsIn K mainGlobals "enumerate" = some none)
    (z_isinstance : PySem.W.nsIn K mainGlobals "isinstance" = some none)
    (z_list : PySem.W.nsIn K mainGlobals "list" = some none)
    (z_MOST_ROUNDS : PySem.W.nsIn K mainGlobals "MOST_ROUNDS" = some (some (.int (7) t_MOST_ROUNDS)))
    (z_int : PySem.W.nsIn K mainGlobals "int" = some none)
    (z_bool : PySem.W.nsIn K mainGlobals "bool" = some none)
    (z_MOST_ELEMENTS : PySem.W.nsIn K mainGlobals "MOST_ELEMENTS" = some (some (.int (144) t_MOST_ELEMENTS)))
    (ob_NoRounds : e0B K C_NoRounds = true)
    (fl_rounds : flB K "rounds" [(0, C_Rounds)] = true)
    (fl_lower : flB K "lower" [(2, C_Table)] = true)
    (fl_upper : flB K "upper" [(2, C_Table)] = true)
    (fl_table : flB K "table" [(1, C_Tower)] = true)
    (ob_NoElement : e0B K C_NoElement = true)
    (fl_kept : flB K "kept" [(2, C_Table)] = true)
    (xL_NoTower : K.lookup C_NoTower = some (excClassObj nm_NoTower q_NoTower C_NoTower NA_NoTower bs_NoTower bm_NoTower true sn_NoTower sub_NoTower ab_NoTower col_NoTower dd_NoTower k0_NoTower k1_NoTower k2_NoTower k3_NoTower k5_NoTower "ValueError.__new__")) (rv_NoTower : PySem.HandSPX.refsVE bm_NoTower = true) (ob_NoTower : oexB K C_NoTower = true) (tI_NoTower : PySem.W.typeIn K (.ref f_NoTower_init) = some (.type "function"))
    (no_NoTower_three : PySem.W.findIn K (.ref C_NoTower) "three" = some none)
    (fl_ground : flB K "ground" [(1, C_Tower)] = true)
    (z_MOST_LOWER : PySem.W.nsIn K mainGlobals "MOST_LOWER" = some (some (.int (16) t_MOST_LOWER)))
    (ob_NoLower : e0B K C_NoLower = true)
    (z_MOST_UPPER : PySem.W.nsIn K mainGlobals "MOST_UPPER" = some (some (.int (9) t_MOST_UPPER)))
    (ob_NoUpper : e0B K C_NoUpper = true)
    (xL_NoCarry : K.lookup C_NoCarry = some (excClassObj nm_NoCarry q_NoCarry C_NoCarry NA_NoCarry bs_NoCarry bm_NoCarry true sn_NoCarry sub_NoCarry ab_NoCarry col_NoCarry dd_NoCarry k0_NoCarry k1_NoCarry k2_NoCarry k3_NoCarry k5_NoCarry "ValueError.__new__")) (rv_NoCarry : PySem.HandSPX.refsVE bm_NoCarry = true) (ob_NoCarry : oexB K C_NoCarry = true) (tI_NoCarry : PySem.W.typeIn K (.ref f_NoCarry_init) = some (.type "function"))
    (no_NoCarry_y : PySem.W.findIn K (.ref C_NoCarry) "y" = some none)
    (no_NoCarry_x : PySem.W.findIn K (.ref C_NoCarry) "x" = some none)
    (z_dict : PySem.W.nsIn K mainGlobals "dict" = some none)
    (z_sorted : PySem.W.nsIn K mainGlobals "sorted" = some none)
    (z_max : PySem.W.nsIn K mainGlobals "max" = some none)
    (hIs : isTab K [(10, C_CarryError), (11, C_NoRounds), (12, C_NoElement), (13, C_NoLower), (14, C_NoUpper), (23, C_NoCarry), (24, C_NoTower), (0, C_Rounds), (2, C_Table), (1, C_Tower)] [(0, C_Rounds), (12, C_NoElement)] = true)
    (hCt : ctB K [(10, C_CarryError), (11, C_NoRounds), (12, C_NoElement), (13, C_NoLower), (14, C_NoUpper), (23, C_NoCarry), (24, C_NoTower)] [(10, C_CarryError)] = true)
    (mk_Rounds : PySem.W.makesIn K C_Rounds = true) (kc_Rounds : PySem.W.keepIn K (.ref C_Rounds) = true)
    (mk_Tower : PySem.W.makesIn K C_Tower = true) (kc_Tower : PySem.W.keepIn K (.ref C_Tower) = true)
    (mk_Table : PySem.W.makesIn K C_Table = true) (kc_Table : PySem.W.keepIn K (.ref C_Table) = true)
    (am_Rounds_look_at : PySem.W.findIn K (.ref C_Rounds) "look_at" = some (some (.ref f_Group_look_at)))
    (am_Tower_look_at : PySem.W.findIn K (.ref C_Tower) "look_at" = some (some (.ref f_Group_look_at)))
    (am_Rounds_added : PySem.W.findIn K (.ref C_Rounds) "added" = some (some (.ref f_Group_added)))
    (am_Tower_added : PySem.W.findIn K (.ref C_Tower) "added" = some (some (.ref f_Group_added)))
    (am_Rounds_size : PySem.W.findIn K (.ref C_Rounds) "size" = some (some (.ref f_Group_size)))
    (am_Tower_size : PySem.W.findIn K (.ref C_Tower) "size" = some (some (.ref f_Group_size)))
    (oB : ([C_Rounds, C_Tower, C_Table] : List Addr).all (objB K) = true)
    : LawT P w K q 12 "_law_script" mg fa d_law := by
  have e := hfa.symm.trans (PySem.W.mg_of X G a_law)
  cases e
  letI tn : Tn := ⟨fun P => "", []⟩
  have m_CarryError : mg (cname 10) = some (.ref C_CarryError) := PySem.W.mg_of X G aC_CarryError
  have ca_CarryError : (⟨P, w, K, mg⟩ : GC).ca 10 = C_CarryError := ca_of (G := ⟨P, w, K, mg⟩) m_CarryError
  have m_NoRounds : mg (cname 11) = some (.ref C_NoRounds) := PySem.W.mg_of X G aC_NoRounds
  have ca_NoRounds : (⟨P, w, K, mg⟩ : GC).ca 11 = C_NoRounds := ca_of (G := ⟨P, w, K, mg⟩) m_NoRounds
  have m_NoElement : mg (cname 12) = some (.ref C_NoElement) := PySem.W.mg_of X G aC_NoElement
  have ca_NoElement : (⟨P, w, K, mg⟩ : GC).ca 12 = C_NoElement := ca_of (G := ⟨P, w, K, mg⟩) m_NoElement
  have m_NoLower : mg (cname 13) = some (.ref C_NoLower) := PySem.W.mg_of X G aC_NoLower
  have ca_NoLower : (⟨P, w, K, mg⟩ : GC).ca 13 = C_NoLower := ca_of (G := ⟨P, w, K, mg⟩) m_NoLower
  have m_NoUpper : mg (cname 14) = some (.ref C_NoUpper) := PySem.W.mg_of X G aC_NoUpper
  have ca_NoUpper : (⟨P, w, K, mg⟩ : GC).ca 14 = C_NoUpper := ca_of (G := ⟨P, w, K, mg⟩) m_NoUpper
  have m_NoCarry : mg (cname 23) = some (.ref C_NoCarry) := PySem.W.mg_of X G aC_NoCarry
  have ca_NoCarry : (⟨P, w, K, mg⟩ : GC).ca 23 = C_NoCarry := ca_of (G := ⟨P, w, K, mg⟩) m_NoCarry
  have m_NoTower : mg (cname 24) = some (.ref C_NoTower) := PySem.W.mg_of X G aC_NoTower
  have ca_NoTower : (⟨P, w, K, mg⟩ : GC).ca 24 = C_NoTower := ca_of (G := ⟨P, w, K, mg⟩) m_NoTower
  have m_Group : mg (cname 5) = some (.ref C_Group) := PySem.W.mg_of X G aC_Group
  have ca_Group : (⟨P, w, K, mg⟩ : GC).ca 5 = C_Group := ca_of (G := ⟨P, w, K, mg⟩) m_Group
  have m_Rounds : mg (cname 0) = some (.ref C_Rounds) := PySem.W.mg_of X G aC_Rounds
  have ca_Rounds : (⟨P, w, K, mg⟩ : GC).ca 0 = C_Rounds := ca_of (G := ⟨P, w, K, mg⟩) m_Rounds
  have m_Table : mg (cname 2) = some (.ref C_Table) := PySem.W.mg_of X G aC_Table
  have ca_Table : (⟨P, w, K, mg⟩ : GC).ca 2 = C_Table := ca_of (G := ⟨P, w, K, mg⟩) m_Table
  have m_Tower : mg (cname 1) = some (.ref C_Tower) := PySem.W.mg_of X G aC_Tower
  have ca_Tower : (⟨P, w, K, mg⟩ : GC).ca 1 = C_Tower := ca_of (G := ⟨P, w, K, mg⟩) m_Tower
  have F_q_cell := fun_mk (st := s_q_cell) l_q_cell c_q_cell k_q_cell
  have B_q_cell := F_q_cell.binds (ps := ["_law_script", "_law_k"]) fun _ _ _ _ _ _ us hl => match us, hl with | [_, _], _ => rfl
  have F_q_elements := fun_mk (st := s_q_elements) l_q_elements c_q_elements k_q_elements
  have B_q_elements := F_q_elements.binds (ps := ["_law_rounds"]) fun _ _ _ _ _ _ us hl => match us, hl with | [_], _ => rfl
  have F_q_all := fun_mk (st := s_q_all) l_q_all c_q_all k_q_all
  have B_q_all := F_q_all.binds (ps := ["_law_group"]) fun _ _ _ _ _ _ us hl => match us, hl with | [_], _ => rfl
  have F_q_plus := fun_mk (st := s_q_plus) l_q_plus c_q_plus k_q_plus
  have B_q_plus := F_q_plus.binds (ps := ["_law_rounds", "_law_x", "_law_y"]) fun _ _ _ _ _ _ us hl => match us, hl with | [_, _, _], _ => rfl
  have F_q_put := fun_mk (st := s_q_put) l_q_put c_q_put k_q_put
  have B_q_put := F_q_put.binds (ps := ["_law_group", "_law_x", "_law_y"]) fun _ _ _ _ _ _ us hl => match us, hl with | [_, _, _], _ => rfl
  have F_q_zero := fun_mk (st := s_q_zero) l_q_zero c_q_zero k_q_zero
  have B_q_zero := F_q_zero.binds (ps := ["_law_group"]) fun _ _ _ _ _ _ us hl => match us, hl with | [_], _ => rfl
  have F_q_backs := fun_mk (st := s_q_backs) l_q_backs c_q_backs k_q_backs
  have B_q_backs := F_q_backs.binds (ps := ["_law_group"]) fun _ _ _ _ _ _ us hl => match us, hl with | [_], _ => rfl
  have F_q_laid := fun_mk (st := s_q_laid) l_q_laid c_q_laid k_q_laid
  have B_q_laid := F_q_laid.binds (ps := ["_law_group", "_law_upper", "_law_script", "_law_at"]) fun _ _ _ _ _ _ us hl => match us, hl with | [_, _, _, _], _ => rfl
  have F_is_whole := fun_mk (st := s_is_whole) l_is_whole c_is_whole k_is_whole
  have B_is_whole := F_is_whole.binds (ps := ["thing"]) fun _ _ _ _ _ _ us hl => match us, hl with | [_], _ => rfl
  have F_are_rounds := fun_mk (st := s_are_rounds) l_are_rounds c_are_rounds k_are_rounds
  have B_are_rounds := F_are_rounds.binds (ps := ["thing"]) fun _ _ _ _ _ _ us hl => match us, hl with | [_], _ => rfl
  have F_Rounds_init := fun_mk (st := s_Rounds_init) l_Rounds_init c_Rounds_init k_Rounds_init
  have B_Rounds_init := F_Rounds_init.binds (ps := ["self", "rounds"]) fun _ _ _ _ _ _ us hl => match us, hl with | [_, _], _ => rfl
  have F_Rounds_members := fun_mk (st := s_Rounds_members) l_Rounds_members c_Rounds_members k_Rounds_members
  have B_Rounds_members := F_Rounds_members.binds (ps := ["self"]) fun _ _ _ _ _ _ us hl => match us, hl with | [_], _ => rfl
  have F_Tower_members := fun_mk (st := s_Tower_members) l_Tower_members c_Tower_members k_Tower_members
  have B_Tower_members := F_Tower_members.binds (ps := ["self"]) fun _ _ _ _ _ _ us hl => match us, hl with | [_], _ => rfl
  have F_Rounds_has := fun_mk (st := s_Rounds_has) l_Rounds_has c_Rounds_has k_Rounds_has
  have B_Rounds_has := F_Rounds_has.binds (ps := ["self", "thing"]) fun _ _ _ _ _ _ us hl => match us, hl with | [_, _], _ => rfl
  have F_Group_look_at := fun_mk (st := s_Group_look_at) l_Group_look_at c_Group_look_at k_Group_look_at
  have B_Group_look_at := F_Group_look_at.binds (ps := ["self", "thing"]) fun _ _ _ _ _ _ us hl => match us, hl with | [_, _], _ => rfl
  have F_Rounds_put := fun_mk (st := s_Rounds_put) l_Rounds_put c_Rounds_put k_Rounds_put
  have B_Rounds_put := F_Rounds_put.binds (ps := ["self", "x", "y"]) fun _ _ _ _ _ _ us hl => match us, hl with | [_, _, _], _ => rfl
  have F_Group_added := fun_mk (st := s_Group_added) l_Group_added c_Group_added k_Group_added
  have B_Group_added := F_Group_added.binds (ps := ["self", "x", "y"]) fun _ _ _ _ _ _ us hl => match us, hl with | [_, _, _], _ => rfl
  have F_Tower_has := fun_mk (st := s_Tower_has) l_Tower_has c_Tower_has k_Tower_has
  have B_Tower_has := F_Tower_has.binds (ps := ["self", "thing"]) fun _ _ _ _ _ _ us hl => match us, hl with | [_, _], _ => rfl
  have F_Table_carry := fun_mk (st := s_Table_carry) l_Table_carry c_Table_carry k_Table_carry
  have B_Table_carry := F_Table_carry.binds (ps := ["self", "x", "y"]) fun _ _ _ _ _ _ us hl => match us, hl with | [_, _, _], _ => rfl
  have F_Tower_put := fun_mk (st := s_Tower_put) l_Tower_put c_Tower_put k_Tower_put
  have B_Tower_put := F_Tower_put.binds (ps := ["self", "x", "y"]) fun _ _ _ _ _ _ us hl => match us, hl with | [_, _, _], _ => rfl
  have F_break_of_three := fun_mk (st := s_break_of_three) l_break_of_three c_break_of_three k_break_of_three
  have B_break_of_three := F_break_of_three.binds (ps := ["table"]) fun _ _ _ _ _ _ us hl => match us, hl with | [_], _ => rfl
  have F_NoTower_init := fun_mk (st := s_NoTower_init) l_NoTower_init c_NoTower_init k_NoTower_init
  have B_NoTower_init := F_NoTower_init.binds (ps := ["self", "three"]) fun _ _ _ _ _ _ us hl => match us, hl with | [_, _], _ => rfl
  have F_Rounds_nought := fun_mk (st := s_Rounds_nought) l_Rounds_nought c_Rounds_nought k_Rounds_nought
  have B_Rounds_nought := F_Rounds_nought.binds (ps := ["self"]) fun _ _ _ _ _ _ us hl => match us, hl with | [_], _ => rfl
  have F_Tower_init := fun_mk (st := s_Tower_init) l_Tower_init c_Tower_init k_Tower_init
  have B_Tower_init := F_Tower_init.binds (ps := ["self", "table"]) fun _ _ _ _ _ _ us hl => match us, hl with | [_, _], _ => rfl
  have F_Group_size := fun_mk (st := s_Group_size) l_Group_size c_Group_size k_Group_size
  have B_Group_size := F_Group_size.binds (ps := ["self"]) fun _ _ _ _ _ _ us hl => match us, hl with | [_], _ => rfl
  have F_Rounds_is_even := fun_mk (st := s_Rounds_is_even) l_Rounds_is_even c_Rounds_is_even k_Rounds_is_even
  have B_Rounds_is_even := F_Rounds_is_even.binds (ps := ["self"]) fun _ _ _ _ _ _ us hl => match us, hl with | [_], _ => rfl
  have F_break_of_two := fun_mk (st := s_break_of_two) l_break_of_two c_break_of_two k_break_of_two
  have B_break_of_two := F_break_of_two.binds (ps := ["table"]) fun _ _ _ _ _ _ us hl => match us, hl with | [_], _ => rfl
  have F_Tower_is_even := fun_mk (st := s_Tower_is_even) l_Tower_is_even c_Tower_is_even k_Tower_is_even
  have B_Tower_is_even := F_Tower_is_even.binds (ps := ["self"]) fun _ _ _ _ _ _ us hl => match us, hl with | [_], _ => rfl
  have F_look_at_groups := fun_mk (st := s_look_at_groups) l_look_at_groups c_look_at_groups k_look_at_groups
  have B_look_at_groups := F_look_at_groups.binds (ps := ["lower", "upper"]) fun _ _ _ _ _ _ us hl => match us, hl with | [_, _], _ => rfl
  have F_NoCarry_init := fun_mk (st := s_NoCarry_init) l_NoCarry_init c_NoCarry_init k_NoCarry_init
  have B_NoCarry_init := F_NoCarry_init.binds (ps := ["self", "x", "y"]) fun _ _ _ _ _ _ us hl => match us, hl with | [_, _, _], _ => rfl
  have F_Table_init := fun_mk (st := s_Table_init) l_Table_init c_Table_init k_Table_init
  have B_Table_init := F_Table_init.binds (ps := ["self", "lower", "upper", "carries"]) fun _ _ _ _ _ _ us hl => match us, hl with | [_, _, _, _], _ => rfl
  have F_q_made := fun_mk (st := s_q_made) l_q_made c_q_made k_q_made
  have B_q_made := F_q_made.binds (ps := ["_law_group"]) fun _ _ _ _ _ _ us hl => match us, hl with | [_], _ => rfl
  have F_Rounds_backed := fun_mk (st := s_Rounds_backed) l_Rounds_backed c_Rounds_backed k_Rounds_backed
  have B_Rounds_backed := F_Rounds_backed.binds (ps := ["self", "x"]) fun _ _ _ _ _ _ us hl => match us, hl with | [_, _], _ => rfl
  have F_Tower_backed := fun_mk (st := s_Tower_backed) l_Tower_backed c_Tower_backed k_Tower_backed
  have B_Tower_backed := F_Tower_backed.binds (ps := ["self", "x"]) fun _ _ _ _ _ _ us hl => match us, hl with | [_, _], _ => rfl
  have F_Tower_nought := fun_mk (st := s_Tower_nought) l_Tower_nought c_Tower_nought k_Tower_nought
  have B_Tower_nought := F_Tower_nought.binds (ps := ["self"]) fun _ _ _ _ _ _ us hl => match us, hl with | [_], _ => rfl
  have F_Tower_lying := fun_mk (st := s_Tower_lying) l_Tower_lying c_Tower_lying k_Tower_lying
  have B_Tower_lying := F_Tower_lying.binds (ps := ["self", "a"]) fun _ _ _ _ _ _ us hl => match us, hl with | [_, _], _ => rfl
  have F_Tower_over := fun_mk (st := s_Tower_over) l_Tower_over c_Tower_over k_Tower_over
  have B_Tower_over := F_Tower_over.binds (ps := ["self", "x"]) fun _ _ _ _ _ _ us hl => match us, hl with | [_, _], _ => rfl
  have F_q_near := fun_mk (st := s_q_near) l_q_near c_q_near k_q_near
  have B_q_near := F_q_near.binds (ps := ["_law_last"]) fun _ _ _ _ _ _ us hl => match us, hl with | [_], _ => rfl
  have F_q_refused := fun_mk (st := s_q_refused) l_q_refused c_q_refused k_q_refused
  have B_q_refused := F_q_refused.binds (ps := ["_law_way", "_law_tower", "_law_thing"]) fun _ _ _ _ _ _ us hl => match us, hl with | [_, _, _], _ => rfl
  have F_law := fun_mk (st := s_law) l_law c_law k_law
  refine ⟨tn, PySem.W.fnOf "law" "law" (defArgs s_law) (defBody s_law) (defScope s_law) .none kV_law dc_law pm_law an_law cd_law ct_law, [], rfl, ?_, fun s u => .of_eq rfl, fun base _ _ hTB => ?_⟩
  · intro t ht
    cases ht
  have hca : ∀ p ∈ ([(10, C_CarryError), (11, C_NoRounds), (12, C_NoElement), (13, C_NoLower), (14, C_NoUpper), (23, C_NoCarry), (24, C_NoTower), (5, C_Group), (0, C_Rounds), (2, C_Table), (1, C_Tower)] : List (Nat × Addr)), (⟨P, w, K, mg⟩ : GC).ca p.1 = p.2 := by
    intro p hp
    simp only [List.mem_cons, List.not_mem_nil, or_false] at hp
    rcases hp with rfl | rfl | rfl | rfl | rfl | rfl | rfl | rfl | rfl | rfl | rfl
    · exact ca_CarryError
    · exact ca_NoRounds
    · exact ca_NoElement
    · exact ca_NoLower
    · exact ca_NoUpper
    · exact ca_NoCarry
    · exact ca_NoTower
    · exact ca_Group
    · exact ca_Rounds
    · exact ca_Table
    · exact ca_Tower
  have O_NoTower : OexC K C_NoTower := oexC_by xL_NoTower rv_NoTower ob_NoTower
  have X_NoTower : ExMA P w K mg base C_NoTower 24 := ⟨m_NoTower, O_NoTower, f_NoTower_init, _, _, exc1_ok (pn := "three") (fn := "three") F_NoTower_init ⟨rfl, rfl, rfl, by decide +kernel, rfl, by decide +kernel, by decide +kernel⟩ O_NoTower no_NoTower_three (fun X hN hs => pss_one (ps_ost (pe_var (i := 0) (by rw [hN]; rfl) (by rw [hs]; exact Or.inl rfl)) (pe_var (i := 1) (by rw [hN]; rfl) (by rw [hs]; exact Or.inl rfl)))), a_NoTower_init, tI_NoTower, B_NoTower_init⟩
  have O_NoCarry : OexC K C_NoCarry := oexC_by xL_NoCarry rv_NoCarry ob_NoCarry
  have X_NoCarry : ExMA P w K mg base C_NoCarry 23 := ⟨m_NoCarry, O_NoCarry, f_NoCarry_init, _, _, exc2_ok (pn := "x") (qn := "y") (fn := "x") (gn := "y") F_NoCarry_init ⟨rfl, rfl, rfl, by decide +kernel, rfl, by decide +kernel, by decide +kernel⟩ O_NoCarry no_NoCarry_x no_NoCarry_y (fun X hN hs => pss_cons (ps_ost (pe_var (i := 0) (by rw [hN]; rfl) (by rw [hs]; exact Or.inl rfl)) (pe_var (i := 1) (by rw [hN]; rfl) (by rw [hs]; exact Or.inl rfl))) (pss_one (ps_ost (pe_var (i := 0) (by rw [hN]; rfl) (by rw [hs]; exact Or.inl rfl)) (pe_var (i := 2) (by rw [hN]; rfl) (by rw [hs]; exact Or.inl rfl))))), a_NoCarry_init, tI_NoCarry, B_NoCarry_init⟩
  have T : Txt P w K mg base := {
      zz := trivial,
      n_len := PySem.W.mg_none_of X G z_len,
      n_range := PySem.W.mg_none_of X G z_range,
      n_tuple := PySem.W.mg_none_of X G z_tuple,
      n_zip := PySem.W.mg_none_of X G z_zip,
      n_enumerate := PySem.W.mg_none_of X G z_enumerate,
      c_Rounds := cg_by m_Rounds,
      n_isinstance := PySem.W.mg_none_of X G z_isinstance,
      n_list := PySem.W.mg_none_of X G z_list,
      g_MOST_ROUNDS := ⟨_, PySem.W.mg_of X G z_MOST_ROUNDS⟩,
      n_int := PySem.W.mg_none_of X G z_int,
      n_bool := PySem.W.mg_none_of X G z_bool,
      g_MOST_ELEMENTS := ⟨_, PySem.W.mg_of X G z_MOST_ELEMENTS⟩,
      c_NoRounds := cg_by m_NoRounds,
      e_NoRounds := by rw [ca_NoRounds]; exact exM0_by m_NoRounds ob_NoRounds,
      f_rounds := fldM_by (fun p hp => hca p (by simp only [List.mem_cons, List.not_mem_nil, or_false] at hp ⊢; rcases hp with rfl <;> simp)) fl_rounds,
      cl_Rounds_rounds := clM_by (fun p hp => hca p (by simp only [List.mem_cons, List.not_mem_nil, or_false] at hp ⊢; rcases hp with rfl <;> simp)) fl_rounds (by simp),
      c_Tower := cg_by m_Tower,
      f_lower := fldM_by (fun p hp => hca p (by simp only [List.mem_cons, List.not_mem_nil, or_false] at hp ⊢; rcases hp with rfl <;> simp)) fl_lower,
      f_upper := fldM_by (fun p hp => hca p (by simp only [List.mem_cons, List.not_mem_nil, or_false] at hp ⊢; rcases hp with rfl <;> simp)) fl_upper,
      f_table := fldM_by (fun p hp => hca p (by simp only [List.mem_cons, List.not_mem_nil, or_false] at hp ⊢; rcases hp with rfl <;> simp)) fl_table,
      c_NoElement := cg_by m_NoElement,
      e_NoElement := by rw [ca_NoElement]; exact exM0_by m_NoElement ob_NoElement,
      f_kept := fldM_by (fun p hp => hca p (by simp only [List.mem_cons, List.not_mem_nil, or_false] at hp ⊢; rcases hp with rfl <;> simp)) fl_kept,
      c_NoTower := cg_by m_NoTower,
      e_NoTower := by rw [ca_NoTower]; exact X_NoTower,
      cl_Tower_table := clM_by (fun p hp => hca p (by simp only [List.mem_cons, List.not_mem_nil, or_false] at hp ⊢; rcases hp with rfl <;> simp)) fl_table (by simp),
      f_ground := fldM_by (fun p hp => hca p (by simp only [List.mem_cons, List.not_mem_nil, or_false] at hp ⊢; rcases hp with rfl <;> simp)) fl_ground,
      cl_Tower_ground := clM_by (fun p hp => hca p (by simp only [List.mem_cons, List.not_mem_nil, or_false] at hp ⊢; rcases hp with rfl <;> simp)) fl_ground (by simp),
      c_Table := cg_by m_Table,
      g_MOST_LOWER := ⟨_, PySem.W.mg_of X G z_MOST_LOWER⟩,
      c_NoLower := cg_by m_NoLower,
      e_NoLower := by rw [ca_NoLower]; exact exM0_by m_NoLower ob_NoLower,
      g_MOST_UPPER := ⟨_, PySem.W.mg_of X G z_MOST_UPPER⟩,
      c_NoUpper := cg_by m_NoUpper,
      e_NoUpper := by rw [ca_NoUpper]; exact exM0_by m_NoUpper ob_NoUpper,
      cl_Table_lower := clM_by (fun p hp => hca p (by simp only [List.mem_cons, List.not_mem_nil, or_false] at hp ⊢; rcases hp with rfl <;> simp)) fl_lower (by simp),
      cl_Table_upper := clM_by (fun p hp => hca p (by simp only [List.mem_cons, List.not_mem_nil, or_false] at hp ⊢; rcases hp with rfl <;> simp)) fl_upper (by simp),
      cl_Table_kept := clM_by (fun p hp => hca p (by simp only [List.mem_cons, List.not_mem_nil, or_false] at hp ⊢; rcases hp with rfl <;> simp)) fl_kept (by simp),
      c_NoCarry := cg_by m_NoCarry,
      e_NoCarry := by rw [ca_NoCarry]; exact X_NoCarry,
      n_dict := PySem.W.mg_none_of X G z_dict,
      n_sorted := PySem.W.mg_none_of X G z_sorted,
      n_max := PySem.W.mg_none_of X G z_max,
      c_CarryError := cg_by m_CarryError,
      isM := isM_of (fun p hp => hca p (by simp only [List.mem_cons, List.not_mem_nil, or_false] at hp ⊢; rcases hp with rfl | rfl | rfl | rfl | rfl | rfl | rfl | rfl | rfl | rfl <;> simp)) (fun p hp => hca p (by simp only [List.mem_cons, List.not_mem_nil, or_false] at hp ⊢; rcases hp with rfl | rfl <;> simp)) hIs,
      ctM := ctM_of (fun p hp => hca p (by simp only [List.mem_cons, List.not_mem_nil, or_false] at hp ⊢; rcases hp with rfl | rfl | rfl | rfl | rfl | rfl | rfl <;> simp)) (fun p hp => hca p (by simp only [List.mem_cons, List.not_mem_nil, or_false] at hp ⊢; rcases hp with rfl <;> simp)) hCt }
  have G_q_cell : FnOk P w K mg base (L2.CX P w) 1 f_q_cell _ ["_law_script", "_law_k"] (spM ⟨P, w, K, mg⟩ .S d_q_cell) := fn_ok F_q_cell sc_q_cell (fun cdv A outer s H E hr => b_q_cell T cdv A outer s H E hr)
  have M_q_cell : FnM P w K mg base 1 "_law_cell" .S d_q_cell := ⟨f_q_cell, _, _, G_q_cell, PySem.W.mg_of X G a_q_cell, k_q_cell, B_q_cell⟩
  have G_q_elements : FnOk P w K mg base (L2.CX P w) 1 f_q_elements _ ["_law_rounds"] (spM ⟨P, w, K, mg⟩ .S d_q_elements) := fn_ok F_q_elements sc_q_elements (fun cdv A outer s H E hr => b_q_elements T cdv A outer s H E hr)
  have M_q_elements : FnM P w K mg base 1 "_law_elements" .S d_q_elements := ⟨f_q_elements, _, _, G_q_elements, PySem.W.mg_of X G a_q_elements, k_q_elements, B_q_elements⟩
  have G_q_all_r0 : FnOk P w K mg base (L2.CX P w) 2 f_q_all _ ["_law_group"] (spM ⟨P, w, K, mg⟩ .S d_q_all_r0) := fn_ok F_q_all sc_q_all (fun cdv A outer s H E hr => b_q_all_r0 T M_q_elements cdv A outer s H E hr)
  have M_q_all_r0 : FnM P w K mg base 2 "_law_all" .S d_q_all_r0 := ⟨f_q_all, _, _, G_q_all_r0, PySem.W.mg_of X G a_q_all, k_q_all, B_q_all⟩
  have G_q_all_r1 : FnOk P w K mg base (L2.CX P w) 3 f_q_all _ ["_law_group"] (spM ⟨P, w, K, mg⟩ .S d_q_all_r1) := fn_ok F_q_all sc_q_all (fun cdv A outer s H E hr => b_q_all_r1 T M_q_elements M_q_all_r0 cdv A outer s H E hr)
  have M_q_all_r1 : FnM P w K mg base 3 "_law_all" .S d_q_all_r1 := ⟨f_q_all, _, _, G_q_all_r1, PySem.W.mg_of X G a_q_all, k_q_all, B_q_all⟩
  have G_q_all : FnOk P w K mg base (L2.CX P w) 4 f_q_all _ ["_law_group"] (spM ⟨P, w, K, mg⟩ .S d_q_all) := fn_ok F_q_all sc_q_all (fun cdv A outer s H E hr => b_q_all T M_q_elements M_q_all_r1 cdv A outer s H E hr)
  have M_q_all : FnM P w K mg base 4 "_law_all" .S d_q_all := ⟨f_q_all, _, _, G_q_all, PySem.W.mg_of X G a_q_all, k_q_all, B_q_all⟩
  have G_q_plus : FnOk P w K mg base (L2.CX P w) 1 f_q_plus _ ["_law_rounds", "_law_x", "_law_y"] (spM ⟨P, w, K, mg⟩ .S d_q_plus) := fn_ok F_q_plus sc_q_plus (fun cdv A outer s H E hr => b_q_plus T cdv A outer s H E hr)
  have M_q_plus : FnM P w K mg base 1 "_law_plus" .S d_q_plus := ⟨f_q_plus, _, _, G_q_plus, PySem.W.mg_of X G a_q_plus, k_q_plus, B_q_plus⟩
  have G_q_put_r0 : FnOk P w K mg base (L2.CX P w) 2 f_q_put _ ["_law_group", "_law_x", "_law_y"] (spM ⟨P, w, K, mg⟩ .S d_q_put_r0) := fn_ok F_q_put sc_q_put (fun cdv A outer s H E hr => b_q_put_r0 T M_q_plus cdv A outer s H E hr)
  have M_q_put_r0 : FnM P w K mg base 2 "_law_put" .S d_q_put_r0 := ⟨f_q_put, _, _, G_q_put_r0, PySem.W.mg_of X G a_q_put, k_q_put, B_q_put⟩
  have G_q_put_r1 : FnOk P w K mg base (L2.CX P w) 3 f_q_put _ ["_law_group", "_law_x", "_law_y"] (spM ⟨P, w, K, mg⟩ .S d_q_put_r1) := fn_ok F_q_put sc_q_put (fun cdv A outer s H E hr => b_q_put_r1 T M_q_plus M_q_put_r0 cdv A outer s H E hr)
  have M_q_put_r1 : FnM P w K mg base 3 "_law_put" .S d_q_put_r1 := ⟨f_q_put, _, _, G_q_put_r1, PySem.W.mg_of X G a_q_put, k_q_put, B_q_put⟩
  have G_q_put : FnOk P w K mg base (L2.CX P w) 4 f_q_put _ ["_law_group", "_law_x", "_law_y"] (spM ⟨P, w, K, mg⟩ .S d_q_put) := fn_ok F_q_put sc_q_put (fun cdv A outer s H E hr => b_q_put T M_q_plus M_q_put_r1 cdv A outer s H E hr)
  have M_q_put : FnM P w K mg base 4 "_law_put" .S d_q_put := ⟨f_q_put, _, _, G_q_put, PySem.W.mg_of X G a_q_put, k_q_put, B_q_put⟩
  have G_q_zero : FnOk P w K mg base (L2.CX P w) 5 f_q_zero _ ["_law_group"] (spM ⟨P, w, K, mg⟩ .S d_q_zero) := fn_ok F_q_zero sc_q_zero (fun cdv A outer s H E hr => b_q_zero T M_q_all M_q_put cdv A outer s H E hr)
  have M_q_zero : FnM P w K mg base 5 "_law_zero" .S d_q_zero := ⟨f_q_zero, _, _, G_q_zero, PySem.W.mg_of X G a_q_zero, k_q_zero, B_q_zero⟩
  have G_q_backs : FnOk P w K mg base (L2.CX P w) 6 f_q_backs _ ["_law_group"] (spM ⟨P, w, K, mg⟩ .S d_q_backs) := fn_ok F_q_backs sc_q_backs (fun cdv A outer s H E hr => b_q_backs T M_q_zero M_q_all M_q_put cdv A outer s H E hr)
  have M_q_backs : FnM P w K mg base 6 "_law_backs" .S d_q_backs := ⟨f_q_backs, _, _, G_q_backs, PySem.W.mg_of X G a_q_backs, k_q_backs, B_q_backs⟩
  have G_q_laid : FnOk P w K mg base (L2.CX P w) 7 f_q_laid _ ["_law_group", "_law_upper", "_law_script", "_law_at"] (spM ⟨P, w, K, mg⟩ .S d_q_laid) := fn_ok F_q_laid sc_q_laid (fun cdv A outer s H E hr => b_q_laid T M_q_all M_q_backs M_q_cell M_q_elements M_q_zero M_q_put M_q_plus cdv A outer s H E hr)
  have M_q_laid : FnM P w K mg base 7 "_law_laid" .S d_q_laid := ⟨f_q_laid, _, _, G_q_laid, PySem.W.mg_of X G a_q_laid, k_q_laid, B_q_laid⟩
  have G_is_whole : FnOk P w K mg base (L2.CX P w) 1 f_is_whole _ ["thing"] (spM ⟨P, w, K, mg⟩ .S d_is_whole) := fn_ok F_is_whole sc_is_whole (fun cdv A outer s H E hr => b_is_whole T cdv A outer s H E hr)
  have M_is_whole : FnM P w K mg base 1 "is_whole" .S d_is_whole := ⟨f_is_whole, _, _, G_is_whole, PySem.W.mg_of X G a_is_whole, k_is_whole, B_is_whole⟩
  have G_are_rounds : FnOk P w K mg base (L2.CX P w) 2 f_are_rounds _ ["thing"] (spM ⟨P, w, K, mg⟩ .S d_are_rounds) := fn_ok F_are_rounds sc_are_rounds (fun cdv A outer s H E hr => b_are_rounds T M_is_whole cdv A outer s H E hr)
  have M_are_rounds : FnM P w K mg base 2 "are_rounds" .S d_are_rounds := ⟨f_are_rounds, _, _, G_are_rounds, PySem.W.mg_of X G a_are_rounds, k_are_rounds, B_are_rounds⟩
  have G_Rounds_init := fn_okI (P := P) (w := w) (mg := mg) (base := base) (c := 0) (g := e_Rounds_init) F_Rounds_init sc_Rounds_init (by decide) (fun cdv A outer s H E x hr => b_Rounds_init T M_are_rounds cdv A outer s H E x hr)
  have MK_Rounds : MkM P w K mg base 3 0 d_Rounds_init := ⟨f_Rounds_init, _, _, G_Rounds_init, (by rw [ca_Rounds]; exact ⟨mk_Rounds, a_Rounds_init, i_Rounds_init, kc_Rounds⟩), cg_by m_Rounds, B_Rounds_init⟩
  have G_Rounds_members : FnOk P w K mg base (L2.CX P w) 1 f_Rounds_members _ ["self"] (spM ⟨P, w, K, mg⟩ .S d_Rounds_members) := fn_ok F_Rounds_members sc_Rounds_members (fun cdv A outer s H E hr => b_Rounds_members T cdv A outer s H E hr)
  have MT_members : ∀ c g, mt_members c = some g → MtM P w K mg base 1 "members" c .S g := by
    intro c g h
    unfold mt_members at h
    split at h
    · rename_i hc; subst hc; cases h
      refine ⟨⟨f_Rounds_members, _, _, G_Rounds_members.mono (by decide), (by rw [ca_Rounds]; exact ⟨a_Rounds_members, i_Rounds_members, k_Rounds_members⟩), B_Rounds_members⟩, (by rw [ca_Rounds]; exact (objB_ok (List.all_eq_true.mp oB C_Rounds (by simp))).cl), by decide +kernel⟩
    · cases h
  have G_Tower_members : FnOk P w K mg base (L2.CX P w) 2 f_Tower_members _ ["self"] (spM ⟨P, w, K, mg⟩ .S d_Tower_members) := fn_ok F_Tower_members sc_Tower_members (fun cdv A outer s H E hr => b_Tower_members T MT_members cdv A outer s H E hr)
  have MT_members_T : ∀ c g, mt_members_T c = some g → MtM P w K mg base 2 "members" c .S g := by
    intro c g h
    unfold mt_members_T at h
    split at h
    · rename_i hc; subst hc; cases h
      refine ⟨⟨f_Rounds_members, _, _, G_Rounds_members.mono (by decide), (by rw [ca_Rounds]; exact ⟨a_Rounds_members, i_Rounds_members, k_Rounds_members⟩), B_Rounds_members⟩, (by rw [ca_Rounds]; exact (objB_ok (List.all_eq_true.mp oB C_Rounds (by simp))).cl), by decide +kernel⟩
    split at h
    · rename_i hc; subst hc; cases h
      refine ⟨⟨f_Tower_members, _, _, G_Tower_members.mono (by decide), (by rw [ca_Tower]; exact ⟨a_Tower_members, i_Tower_members, k_Tower_members⟩), B_Tower_members⟩, (by rw [ca_Tower]; exact (objB_ok (List.all_eq_true.mp oB C_Tower (by simp))).cl), by decide +kernel⟩
    · cases h
  have G_Rounds_has : FnOk P w K mg base (L2.CX P w) 2 f_Rounds_has _ ["self", "thing"] (spM ⟨P, w, K, mg⟩ .S d_Rounds_has) := fn_ok F_Rounds_has sc_Rounds_has (fun cdv A outer s H E hr => b_Rounds_has T M_is_whole cdv A outer s H E hr)
  have MT_has : ∀ c g, mt_has c = some g → MtM P w K mg base 2 "has" c .S g := by
    intro c g h
    unfold mt_has at h
    split at h
    · rename_i hc; subst hc; cases h
      refine ⟨⟨f_Rounds_has, _, _, G_Rounds_has.mono (by decide), (by rw [ca_Rounds]; exact ⟨a_Rounds_has, i_Rounds_has, k_Rounds_has⟩), B_Rounds_has⟩, (by rw [ca_Rounds]; exact (objB_ok (List.all_eq_true.mp oB C_Rounds (by simp))).cl), by decide +kernel⟩
    · cases h
  have G_Group_look_at : FnOk P w K mg base (L2.CX P w) 3 f_Group_look_at _ ["self", "thing"] (spM ⟨P, w, K, mg⟩ .S d_Group_look_at) := fn_ok F_Group_look_at sc_Group_look_at (fun cdv A outer s H E hr => b_Group_look_at T MT_has cdv A outer s H E hr)
  have MT_look_at : ∀ c g, mt_look_at c = some g → MtM P w K mg base 3 "look_at" c .S g := by
    intro c g h
    unfold mt_look_at at h
    split at h
    · rename_i hc; subst hc; cases h
      refine ⟨⟨f_Group_look_at, _, _, G_Group_look_at.mono (by decide), (by rw [ca_Rounds]; exact ⟨am_Rounds_look_at, i_Group_look_at, k_Group_look_at⟩), B_Group_look_at⟩, (by rw [ca_Rounds]; exact (objB_ok (List.all_eq_true.mp oB C_Rounds (by simp))).cl), by decide +kernel⟩
    · cases h
  have G_Rounds_put : FnOk P w K mg base (L2.CX P w) 1 f_Rounds_put _ ["self", "x", "y"] (spM ⟨P, w, K, mg⟩ .S d_Rounds_put) := fn_ok F_Rounds_put sc_Rounds_put (fun cdv A outer s H E hr => b_Rounds_put T cdv A outer s H E hr)
  have MT_put : ∀ c g, mt_put c = some g → MtM P w K mg base 1 "put" c .S g := by
    intro c g h
    unfold mt_put at h
    split at h
    · rename_i hc; subst hc; cases h
      refine ⟨⟨f_Rounds_put, _, _, G_Rounds_put.mono (by decide), (by rw [ca_Rounds]; exact ⟨a_Rounds_put, i_Rounds_put, k_Rounds_put⟩), B_Rounds_put⟩, (by rw [ca_Rounds]; exact (objB_ok (List.all_eq_true.mp oB C_Rounds (by simp))).cl), by decide +kernel⟩
    · cases h
  have G_Group_added : FnOk P w K mg base (L2.CX P w) 4 f_Group_added _ ["self", "x", "y"] (spM ⟨P, w, K, mg⟩ .S d_Group_added) := fn_ok F_Group_added sc_Group_added (fun cdv A outer s H E hr => b_Group_added T MT_look_at MT_put cdv A outer s H E hr)
  have G_Tower_has : FnOk P w K mg base (L2.CX P w) 3 f_Tower_has _ ["self", "thing"] (spM ⟨P, w, K, mg⟩ .S d_Tower_has) := fn_ok F_Tower_has sc_Tower_has (fun cdv A outer s H E hr => b_Tower_has T MT_has cdv A outer s H E hr)
  have MT_has_T : ∀ c g, mt_has_T c = some g → MtM P w K mg base 3 "has" c .S g := by
    intro c g h
    unfold mt_has_T at h
    split at h
    · rename_i hc; subst hc; cases h
      refine ⟨⟨f_Rounds_has, _, _, G_Rounds_has.mono (by decide), (by rw [ca_Rounds]; exact ⟨a_Rounds_has, i_Rounds_has, k_Rounds_has⟩), B_Rounds_has⟩, (by rw [ca_Rounds]; exact (objB_ok (List.all_eq_true.mp oB C_Rounds (by simp))).cl), by decide +kernel⟩
    split at h
    · rename_i hc; subst hc; cases h
      refine ⟨⟨f_Tower_has, _, _, G_Tower_has.mono (by decide), (by rw [ca_Tower]; exact ⟨a_Tower_has, i_Tower_has, k_Tower_has⟩), B_Tower_has⟩, (by rw [ca_Tower]; exact (objB_ok (List.all_eq_true.mp oB C_Tower (by simp))).cl), by decide +kernel⟩
    · cases h
  have G_Group_look_at_1 : FnOk P w K mg base (L2.CX P w) 4 f_Group_look_at _ ["self", "thing"] (spM ⟨P, w, K, mg⟩ .S d_Group_look_at_1) := fn_ok F_Group_look_at sc_Group_look_at (fun cdv A outer s H E hr => b_Group_look_at_1 T MT_has_T cdv A outer s H E hr)
  have MT_look_at_T : ∀ c g, mt_look_at_T c = some g → MtM P w K mg base 4 "look_at" c .S g := by
    intro c g h
    unfold mt_look_at_T at h
    split at h
    · rename_i hc; subst hc; cases h
      refine ⟨⟨f_Group_look_at, _, _, G_Group_look_at.mono (by decide), (by rw [ca_Rounds]; exact ⟨am_Rounds_look_at, i_Group_look_at, k_Group_look_at⟩), B_Group_look_at⟩, (by rw [ca_Rounds]; exact (objB_ok (List.all_eq_true.mp oB C_Rounds (by simp))).cl), by decide +kernel⟩
    split at h
    · rename_i hc; subst hc; cases h
      refine ⟨⟨f_Group_look_at, _, _, G_Group_look_at_1.mono (by decide), (by rw [ca_Tower]; exact ⟨am_Tower_look_at, i_Group_look_at, k_Group_look_at⟩), B_Group_look_at⟩, (by rw [ca_Tower]; exact (objB_ok (List.all_eq_true.mp oB C_Tower (by simp))).cl), by decide +kernel⟩
    · cases h
  have G_Table_carry : FnOk P w K mg base (L2.CX P w) 3 f_Table_carry _ ["self", "x", "y"] (spM ⟨P, w, K, mg⟩ .S d_Table_carry) := fn_ok F_Table_carry sc_Table_carry (fun cdv A outer s H E hr => b_Table_carry T MT_has cdv A outer s H E hr)
  have MT_carry : ∀ c g, mt_carry c = some g → MtM P w K mg base 3 "carry" c .S g := by
    intro c g h
    unfold mt_carry at h
    split at h
    · rename_i hc; subst hc; cases h
      refine ⟨⟨f_Table_carry, _, _, G_Table_carry.mono (by decide), (by rw [ca_Table]; exact ⟨a_Table_carry, i_Table_carry, k_Table_carry⟩), B_Table_carry⟩, (by rw [ca_Table]; exact (objB_ok (List.all_eq_true.mp oB C_Table (by simp))).cl), by decide +kernel⟩
    · cases h
  have G_Tower_put : FnOk P w K mg base (L2.CX P w) 4 f_Tower_put _ ["self", "x", "y"] (spM ⟨P, w, K, mg⟩ .S d_Tower_put) := fn_ok F_Tower_put sc_Tower_put (fun cdv A outer s H E hr => b_Tower_put T MT_carry MT_put cdv A outer s H E hr)
  have MT_put_T : ∀ c g, mt_put_T c = some g → MtM P w K mg base 4 "put" c .S g := by
    intro c g h
    unfold mt_put_T at h
    split at h
    · rename_i hc; subst hc; cases h
      refine ⟨⟨f_Rounds_put, _, _, G_Rounds_put.mono (by decide), (by rw [ca_Rounds]; exact ⟨a_Rounds_put, i_Rounds_put, k_Rounds_put⟩), B_Rounds_put⟩, (by rw [ca_Rounds]; exact (objB_ok (List.all_eq_true.mp oB C_Rounds (by simp))).cl), by decide +kernel⟩
    split at h
    · rename_i hc; subst hc; cases h
      refine ⟨⟨f_Tower_put, _, _, G_Tower_put.mono (by decide), (by rw [ca_Tower]; exact ⟨a_Tower_put, i_Tower_put, k_Tower_put⟩), B_Tower_put⟩, (by rw [ca_Tower]; exact (objB_ok (List.all_eq_true.mp oB C_Tower (by simp))).cl), by decide +kernel⟩
    · cases h
  have G_Group_added_1 : FnOk P w K mg base (L2.CX P w) 5 f_Group_added _ ["self", "x", "y"] (spM ⟨P, w, K, mg⟩ .S d_Group_added_1) := fn_ok F_Group_added sc_Group_added (fun cdv A outer s H E hr => b_Group_added_1 T MT_look_at_T MT_put_T cdv A outer s H E hr)
  have MT_added_T : ∀ c g, mt_added_T c = some g → MtM P w K mg base 5 "added" c .S g := by
    intro c g h
    unfold mt_added_T at h
    split at h
    · rename_i hc; subst hc; cases h
      refine ⟨⟨f_Group_added, _, _, G_Group_added.mono (by decide), (by rw [ca_Rounds]; exact ⟨am_Rounds_added, i_Group_added, k_Group_added⟩), B_Group_added⟩, (by rw [ca_Rounds]; exact (objB_ok (List.all_eq_true.mp oB C_Rounds (by simp))).cl), by decide +kernel⟩
    split at h
    · rename_i hc; subst hc; cases h
      refine ⟨⟨f_Group_added, _, _, G_Group_added_1.mono (by decide), (by rw [ca_Tower]; exact ⟨am_Tower_added, i_Group_added, k_Group_added⟩), B_Group_added⟩, (by rw [ca_Tower]; exact (objB_ok (List.all_eq_true.mp oB C_Tower (by simp))).cl), by decide +kernel⟩
    · cases h
  have G_break_of_three : FnOk P w K mg base (L2.CX P w) 6 f_break_of_three _ ["table"] (spM ⟨P, w, K, mg⟩ .S d_break_of_three) := fn_ok F_break_of_three sc_break_of_three (fun cdv A outer s H E hr => b_break_of_three T MT_members_T MT_added_T MT_carry cdv A outer s H E hr)
  have M_break_of_three : FnM P w K mg base 6 "break_of_three" .S d_break_of_three := ⟨f_break_of_three, _, _, G_break_of_three, PySem.W.mg_of X G a_break_of_three, k_break_of_three, B_break_of_three⟩
  have G_Rounds_nought : FnOk P w K mg base (L2.CX P w) 1 f_Rounds_nought _ ["self"] (spM ⟨P, w, K, mg⟩ .S d_Rounds_nought) := fn_ok F_Rounds_nought sc_Rounds_nought (fun cdv A outer s H E hr => b_Rounds_nought T cdv A outer s H E hr)
  have MT_nought : ∀ c g, mt_nought c = some g → MtM P w K mg base 1 "nought" c .S g := by
    intro c g h
    unfold mt_nought at h
    split at h
    · rename_i hc; subst hc; cases h
      refine ⟨⟨f_Rounds_nought, _, _, G_Rounds_nought.mono (by decide), (by rw [ca_Rounds]; exact ⟨a_Rounds_nought, i_Rounds_nought, k_Rounds_nought⟩), B_Rounds_nought⟩, (by rw [ca_Rounds]; exact (objB_ok (List.all_eq_true.mp oB C_Rounds (by simp))).cl), by decide +kernel⟩
    · cases h
  have G_Tower_init := fn_okI (P := P) (w := w) (mg := mg) (base := base) (c := 1) (g := e_Tower_init) F_Tower_init sc_Tower_init (by decide) (fun cdv A outer s H E x hr => b_Tower_init T M_break_of_three MT_carry MT_nought cdv A outer s H E x hr)
  have MK_Tower : MkM P w K mg base 7 1 d_Tower_init := ⟨f_Tower_init, _, _, G_Tower_init, (by rw [ca_Tower]; exact ⟨mk_Tower, a_Tower_init, i_Tower_init, kc_Tower⟩), cg_by m_Tower, B_Tower_init⟩
  have G_Group_size : FnOk P w K mg base (L2.CX P w) 2 f_Group_size _ ["self"] (spM ⟨P, w, K, mg⟩ .S d_Group_size) := fn_ok F_Group_size sc_Group_size (fun cdv A outer s H E hr => b_Group_size T MT_members cdv A outer s H E hr)
  have G_Group_size_1 : FnOk P w K mg base (L2.CX P w) 3 f_Group_size _ ["self"] (spM ⟨P, w, K, mg⟩ .S d_Group_size_1) := fn_ok F_Group_size sc_Group_size (fun cdv A outer s H E hr => b_Group_size_1 T MT_members_T cdv A outer s H E hr)
  have MT_size_T : ∀ c g, mt_size_T c = some g → MtM P w K mg base 3 "size" c .S g := by
    intro c g h
    unfold mt_size_T at h
    split at h
    · rename_i hc; subst hc; cases h
      refine ⟨⟨f_Group_size, _, _, G_Group_size.mono (by decide), (by rw [ca_Rounds]; exact ⟨am_Rounds_size, i_Group_size, k_Group_size⟩), B_Group_size⟩, (by rw [ca_Rounds]; exact (objB_ok (List.all_eq_true.mp oB C_Rounds (by simp))).cl), by decide +kernel⟩
    split at h
    · rename_i hc; subst hc; cases h
      refine ⟨⟨f_Group_size, _, _, G_Group_size_1.mono (by decide), (by rw [ca_Tower]; exact ⟨am_Tower_size, i_Group_size, k_Group_size⟩), B_Group_size⟩, (by rw [ca_Tower]; exact (objB_ok (List.all_eq_true.mp oB C_Tower (by simp))).cl), by decide +kernel⟩
    · cases h
  have G_Rounds_is_even : FnOk P w K mg base (L2.CX P w) 1 f_Rounds_is_even _ ["self"] (spM ⟨P, w, K, mg⟩ .S d_Rounds_is_even) := fn_ok F_Rounds_is_even sc_Rounds_is_even (fun cdv A outer s H E hr => b_Rounds_is_even T cdv A outer s H E hr)
  have G_break_of_two : FnOk P w K mg base (L2.CX P w) 4 f_break_of_two _ ["table"] (spM ⟨P, w, K, mg⟩ .S d_break_of_two) := fn_ok F_break_of_two sc_break_of_two (fun cdv A outer s H E hr => b_break_of_two T MT_members MT_carry cdv A outer s H E hr)
  have M_break_of_two : FnM P w K mg base 4 "break_of_two" .S d_break_of_two := ⟨f_break_of_two, _, _, G_break_of_two, PySem.W.mg_of X G a_break_of_two, k_break_of_two, B_break_of_two⟩
  have G_Tower_is_even : FnOk P w K mg base (L2.CX P w) 5 f_Tower_is_even _ ["self"] (spM ⟨P, w, K, mg⟩ .S d_Tower_is_even) := fn_ok F_Tower_is_even sc_Tower_is_even (fun cdv A outer s H E hr => b_Tower_is_even T M_break_of_two cdv A outer s H E hr)
  have MT_is_even_T : ∀ c g, mt_is_even_T c = some g → MtM P w K mg base 5 "is_even" c .S g := by
    intro c g h
    unfold mt_is_even_T at h
    split at h
    · rename_i hc; subst hc; cases h
      refine ⟨⟨f_Rounds_is_even, _, _, G_Rounds_is_even.mono (by decide), (by rw [ca_Rounds]; exact ⟨a_Rounds_is_even, i_Rounds_is_even, k_Rounds_is_even⟩), B_Rounds_is_even⟩, (by rw [ca_Rounds]; exact (objB_ok (List.all_eq_true.mp oB C_Rounds (by simp))).cl), by decide +kernel⟩
    split at h
    · rename_i hc; subst hc; cases h
      refine ⟨⟨f_Tower_is_even, _, _, G_Tower_is_even.mono (by decide), (by rw [ca_Tower]; exact ⟨a_Tower_is_even, i_Tower_is_even, k_Tower_is_even⟩), B_Tower_is_even⟩, (by rw [ca_Tower]; exact (objB_ok (List.all_eq_true.mp oB C_Tower (by simp))).cl), by decide +kernel⟩
    · cases h
  have G_look_at_groups : FnOk P w K mg base (L2.CX P w) 6 f_look_at_groups _ ["lower", "upper"] (spM ⟨P, w, K, mg⟩ .S d_look_at_groups) := fn_ok F_look_at_groups sc_look_at_groups (fun cdv A outer s H E hr => b_look_at_groups T MT_size_T MT_is_even_T cdv A outer s H E hr)
  have M_look_at_groups : FnM P w K mg base 6 "look_at_groups" .S d_look_at_groups := ⟨f_look_at_groups, _, _, G_look_at_groups, PySem.W.mg_of X G a_look_at_groups, k_look_at_groups, B_look_at_groups⟩
  have G_Table_init := fn_okI (P := P) (w := w) (mg := mg) (base := base) (c := 2) (g := e_Table_init) F_Table_init sc_Table_init (by decide) (fun cdv A outer s H E x hr => b_Table_init T M_look_at_groups MT_members_T MT_has_T cdv A outer s H E x hr)
  have MK_Table : MkM P w K mg base 7 2 d_Table_init := ⟨f_Table_init, _, _, G_Table_init, (by rw [ca_Table]; exact ⟨mk_Table, a_Table_init, i_Table_init, kc_Table⟩), cg_by m_Table, B_Table_init⟩
  have G_q_made_r0 : FnOk P w K mg base (L2.CX P w) 9 f_q_made _ ["_law_group"] (spM ⟨P, w, K, mg⟩ .S d_q_made_r0) := fn_ok F_q_made sc_q_made (fun cdv A outer s H E hr => b_q_made_r0 T MK_Rounds MK_Tower MK_Table cdv A outer s H E hr)
  have M_q_made_r0 : FnM P w K mg base 9 "_law_made" .S d_q_made_r0 := ⟨f_q_made, _, _, G_q_made_r0, PySem.W.mg_of X G a_q_made, k_q_made, B_q_made⟩
  have G_q_made_r1 : FnOk P w K mg base (L2.CX P w) 10 f_q_made _ ["_law_group"] (spM ⟨P, w, K, mg⟩ .S d_q_made_r1) := fn_ok F_q_made sc_q_made (fun cdv A outer s H E hr => b_q_made_r1 T MK_Rounds MK_Tower MK_Table M_q_made_r0 cdv A outer s H E hr)
  have M_q_made_r1 : FnM P w K mg base 10 "_law_made" .S d_q_made_r1 := ⟨f_q_made, _, _, G_q_made_r1, PySem.W.mg_of X G a_q_made, k_q_made, B_q_made⟩
  have G_q_made : FnOk P w K mg base (L2.CX P w) 11 f_q_made _ ["_law_group"] (spM ⟨P, w, K, mg⟩ .S d_q_made) := fn_ok F_q_made sc_q_made (fun cdv A outer s H E hr => b_q_made T MK_Rounds MK_Tower MK_Table M_q_made_r1 cdv A outer s H E hr)
  have M_q_made : FnM P w K mg base 11 "_law_made" .S d_q_made := ⟨f_q_made, _, _, G_q_made, PySem.W.mg_of X G a_q_made, k_q_made, B_q_made⟩
  have G_Rounds_backed : FnOk P w K mg base (L2.CX P w) 1 f_Rounds_backed _ ["self", "x"] (spM ⟨P, w, K, mg⟩ .S d_Rounds_backed) := fn_ok F_Rounds_backed sc_Rounds_backed (fun cdv A outer s H E hr => b_Rounds_backed T cdv A outer s H E hr)
  have MT_backed : ∀ c g, mt_backed c = some g → MtM P w K mg base 1 "backed" c .S g := by
    intro c g h
    unfold mt_backed at h
    split at h
    · rename_i hc; subst hc; cases h
      refine ⟨⟨f_Rounds_backed, _, _, G_Rounds_backed.mono (by decide), (by rw [ca_Rounds]; exact ⟨a_Rounds_backed, i_Rounds_backed, k_Rounds_backed⟩), B_Rounds_backed⟩, (by rw [ca_Rounds]; exact (objB_ok (List.all_eq_true.mp oB C_Rounds (by simp))).cl), by decide +kernel⟩
    · cases h
  have G_Tower_backed : FnOk P w K mg base (L2.CX P w) 4 f_Tower_backed _ ["self", "x"] (spM ⟨P, w, K, mg⟩ .S d_Tower_backed) := fn_ok F_Tower_backed sc_Tower_backed (fun cdv A outer s H E hr => b_Tower_backed T MT_backed MT_put MT_carry cdv A outer s H E hr)
  have MT_backed_T : ∀ c g, mt_backed_T c = some g → MtM P w K mg base 4 "backed" c .S g := by
    intro c g h
    unfold mt_backed_T at h
    split at h
    · rename_i hc; subst hc; cases h
      refine ⟨⟨f_Rounds_backed, _, _, G_Rounds_backed.mono (by decide), (by rw [ca_Rounds]; exact ⟨a_Rounds_backed, i_Rounds_backed, k_Rounds_backed⟩), B_Rounds_backed⟩, (by rw [ca_Rounds]; exact (objB_ok (List.all_eq_true.mp oB C_Rounds (by simp))).cl), by decide +kernel⟩
    split at h
    · rename_i hc; subst hc; cases h
      refine ⟨⟨f_Tower_backed, _, _, G_Tower_backed.mono (by decide), (by rw [ca_Tower]; exact ⟨a_Tower_backed, i_Tower_backed, k_Tower_backed⟩), B_Tower_backed⟩, (by rw [ca_Tower]; exact (objB_ok (List.all_eq_true.mp oB C_Tower (by simp))).cl), by decide +kernel⟩
    · cases h
  have G_Tower_nought : FnOk P w K mg base (L2.CX P w) 2 f_Tower_nought _ ["self"] (spM ⟨P, w, K, mg⟩ .S d_Tower_nought) := fn_ok F_Tower_nought sc_Tower_nought (fun cdv A outer s H E hr => b_Tower_nought T MT_backed MT_nought cdv A outer s H E hr)
  have MT_nought_T : ∀ c g, mt_nought_T c = some g → MtM P w K mg base 2 "nought" c .S g := by
    intro c g h
    unfold mt_nought_T at h
    split at h
    · rename_i hc; subst hc; cases h
      refine ⟨⟨f_Rounds_nought, _, _, G_Rounds_nought.mono (by decide), (by rw [ca_Rounds]; exact ⟨a_Rounds_nought, i_Rounds_nought, k_Rounds_nought⟩), B_Rounds_nought⟩, (by rw [ca_Rounds]; exact (objB_ok (List.all_eq_true.mp oB C_Rounds (by simp))).cl), by decide +kernel⟩
    split at h
    · rename_i hc; subst hc; cases h
      refine ⟨⟨f_Tower_nought, _, _, G_Tower_nought.mono (by decide), (by rw [ca_Tower]; exact ⟨a_Tower_nought, i_Tower_nought, k_Tower_nought⟩), B_Tower_nought⟩, (by rw [ca_Tower]; exact (objB_ok (List.all_eq_true.mp oB C_Tower (by simp))).cl), by decide +kernel⟩
    · cases h
  have G_Tower_lying_2 : FnOk P w K mg base (L2.CX P w) 5 f_Tower_lying _ ["self", "a"] (spM ⟨P, w, K, mg⟩ .S d_Tower_lying_2) := fn_ok F_Tower_lying sc_Tower_lying (fun cdv A outer s H E hr => b_Tower_lying_2 T MT_has_T MT_put_T MT_backed_T MT_nought_T cdv A outer s H E hr)
  have MT_lying_T_T : ∀ c g, mt_lying_T_T c = some g → MtM P w K mg base 5 "lying" c .S g := by
    intro c g h
    unfold mt_lying_T_T at h
    split at h
    · rename_i hc; subst hc; cases h
      refine ⟨⟨f_Tower_lying, _, _, G_Tower_lying_2.mono (by decide), (by rw [ca_Tower]; exact ⟨a_Tower_lying, i_Tower_lying, k_Tower_lying⟩), B_Tower_lying⟩, (by rw [ca_Tower]; exact (objB_ok (List.all_eq_true.mp oB C_Tower (by simp))).cl), by decide +kernel⟩
    · cases h
  have G_Tower_has_2 : FnOk P w K mg base (L2.CX P w) 4 f_Tower_has _ ["self", "thing"] (spM ⟨P, w, K, mg⟩ .S d_Tower_has_2) := fn_ok F_Tower_has sc_Tower_has (fun cdv A outer s H E hr => b_Tower_has_2 T MT_has_T cdv A outer s H E hr)
  have MT_has_T_T : ∀ c g, mt_has_T_T c = some g → MtM P w K mg base 4 "has" c .S g := by
    intro c g h
    unfold mt_has_T_T at h
    split at h
    · rename_i hc; subst hc; cases h
      refine ⟨⟨f_Rounds_has, _, _, G_Rounds_has.mono (by decide), (by rw [ca_Rounds]; exact ⟨a_Rounds_has, i_Rounds_has, k_Rounds_has⟩), B_Rounds_has⟩, (by rw [ca_Rounds]; exact (objB_ok (List.all_eq_true.mp oB C_Rounds (by simp))).cl), by decide +kernel⟩
    split at h
    · rename_i hc; subst hc; cases h
      refine ⟨⟨f_Tower_has, _, _, G_Tower_has_2.mono (by decide), (by rw [ca_Tower]; exact ⟨a_Tower_has, i_Tower_has, k_Tower_has⟩), B_Tower_has⟩, (by rw [ca_Tower]; exact (objB_ok (List.all_eq_true.mp oB C_Tower (by simp))).cl), by decide +kernel⟩
    · cases h
  have G_Group_look_at_1_2 : FnOk P w K mg base (L2.CX P w) 5 f_Group_look_at _ ["self", "thing"] (spM ⟨P, w, K, mg⟩ .S d_Group_look_at_1_2) := fn_ok F_Group_look_at sc_Group_look_at (fun cdv A outer s H E hr => b_Group_look_at_1_2 T MT_has_T_T cdv A outer s H E hr)
  have MT_look_at_T_T : ∀ c g, mt_look_at_T_T c = some g → MtM P w K mg base 5 "look_at" c .S g := by
    intro c g h
    unfold mt_look_at_T_T at h
    split at h
    · rename_i hc; subst hc; cases h
      refine ⟨⟨f_Group_look_at, _, _, G_Group_look_at.mono (by decide), (by rw [ca_Rounds]; exact ⟨am_Rounds_look_at, i_Group_look_at, k_Group_look_at⟩), B_Group_look_at⟩, (by rw [ca_Rounds]; exact (objB_ok (List.all_eq_true.mp oB C_Rounds (by simp))).cl), by decide +kernel⟩
    split at h
    · rename_i hc; subst hc; cases h
      refine ⟨⟨f_Group_look_at, _, _, G_Group_look_at_1_2.mono (by decide), (by rw [ca_Tower]; exact ⟨am_Tower_look_at, i_Group_look_at, k_Group_look_at⟩), B_Group_look_at⟩, (by rw [ca_Tower]; exact (objB_ok (List.all_eq_true.mp oB C_Tower (by simp))).cl), by decide +kernel⟩
    · cases h
  have G_Tower_put_2 : FnOk P w K mg base (L2.CX P w) 5 f_Tower_put _ ["self", "x", "y"] (spM ⟨P, w, K, mg⟩ .S d_Tower_put_2) := fn_ok F_Tower_put sc_Tower_put (fun cdv A outer s H E hr => b_Tower_put_2 T MT_carry MT_put_T cdv A outer s H E hr)
  have MT_put_T_T : ∀ c g, mt_put_T_T c = some g → MtM P w K mg base 5 "put" c .S g := by
    intro c g h
    unfold mt_put_T_T at h
    split at h
    · rename_i hc; subst hc; cases h
      refine ⟨⟨f_Rounds_put, _, _, G_Rounds_put.mono (by decide), (by rw [ca_Rounds]; exact ⟨a_Rounds_put, i_Rounds_put, k_Rounds_put⟩), B_Rounds_put⟩, (by rw [ca_Rounds]; exact (objB_ok (List.all_eq_true.mp oB C_Rounds (by simp))).cl), by decide +kernel⟩
    split at h
    · rename_i hc; subst hc; cases h
      refine ⟨⟨f_Tower_put, _, _, G_Tower_put_2.mono (by decide), (by rw [ca_Tower]; exact ⟨a_Tower_put, i_Tower_put, k_Tower_put⟩), B_Tower_put⟩, (by rw [ca_Tower]; exact (objB_ok (List.all_eq_true.mp oB C_Tower (by simp))).cl), by decide +kernel⟩
    · cases h
  have G_Group_added_1_2 : FnOk P w K mg base (L2.CX P w) 6 f_Group_added _ ["self", "x", "y"] (spM ⟨P, w, K, mg⟩ .S d_Group_added_1_2) := fn_ok F_Group_added sc_Group_added (fun cdv A outer s H E hr => b_Group_added_1_2 T MT_look_at_T_T MT_put_T_T cdv A outer s H E hr)
  have MT_added_T_T : ∀ c g, mt_added_T_T c = some g → MtM P w K mg base 6 "added" c .S g := by
    intro c g h
    unfold mt_added_T_T at h
    split at h
    · rename_i hc; subst hc; cases h
      refine ⟨⟨f_Group_added, _, _, G_Group_added.mono (by decide), (by rw [ca_Rounds]; exact ⟨am_Rounds_added, i_Group_added, k_Group_added⟩), B_Group_added⟩, (by rw [ca_Rounds]; exact (objB_ok (List.all_eq_true.mp oB C_Rounds (by simp))).cl), by decide +kernel⟩
    split at h
    · rename_i hc; subst hc; cases h
      refine ⟨⟨f_Group_added, _, _, G_Group_added_1_2.mono (by decide), (by rw [ca_Tower]; exact ⟨am_Tower_added, i_Group_added, k_Group_added⟩), B_Group_added⟩, (by rw [ca_Tower]; exact (objB_ok (List.all_eq_true.mp oB C_Tower (by simp))).cl), by decide +kernel⟩
    · cases h
  have G_Tower_over_2 : FnOk P w K mg base (L2.CX P w) 4 f_Tower_over _ ["self", "x"] (spM ⟨P, w, K, mg⟩ (.O .flat) d_Tower_over_2) := fn_okO F_Tower_over sc_Tower_over (fun cdv A outer s H E hr => b_Tower_over_2 T MT_has_T MT_members_T cdv A outer s H E hr)
  have MT_over_T_T : ∀ c g, mt_over_T_T c = some g → MtM P w K mg base 4 "over" c (.O .flat) g := by
    intro c g h
    unfold mt_over_T_T at h
    split at h
    · rename_i hc; subst hc; cases h
      refine ⟨⟨f_Tower_over, _, _, G_Tower_over_2.mono (by decide), (by rw [ca_Tower]; exact ⟨a_Tower_over, i_Tower_over, k_Tower_over⟩), B_Tower_over⟩, (by rw [ca_Tower]; exact (objB_ok (List.all_eq_true.mp oB C_Tower (by simp))).cl), by decide +kernel⟩
    · cases h
  have G_q_near : FnOk P w K mg base (L2.CX P w) 1 f_q_near _ ["_law_last"] (spM ⟨P, w, K, mg⟩ .S d_q_near) := fn_ok F_q_near sc_q_near (fun cdv A outer s H E hr => b_q_near T cdv A outer s H E hr)
  have M_q_near : FnM P w K mg base 1 "_law_near" .S d_q_near := ⟨f_q_near, _, _, G_q_near, PySem.W.mg_of X G a_q_near, k_q_near, B_q_near⟩
  have G_q_refused : FnOk P w K mg base (L2.CX P w) 6 f_q_refused _ ["_law_way", "_law_tower", "_law_thing"] (spM ⟨P, w, K, mg⟩ .S d_q_refused) := fn_ok F_q_refused sc_q_refused (fun cdv A outer s H E hr => b_q_refused T MT_lying_T_T MT_over_T_T cdv A outer s H E hr)
  have M_q_refused : FnM P w K mg base 6 "_law_refused" .S d_q_refused := ⟨f_q_refused, _, _, G_q_refused, PySem.W.mg_of X G a_q_refused, k_q_refused, B_q_refused⟩
  have G_law : FnOk P w K mg base (L2.CX P w) 12 fa _ ["_law_script"] (spM ⟨P, w, K, mg⟩ .S d_law) := fn_ok F_law sc_law (fun cdv A outer s H E hr => b_law T M_q_cell M_q_laid M_q_made M_q_all M_q_backs MT_lying_T_T M_q_put MT_added_T_T MT_over_T_T M_q_elements M_q_plus M_q_near M_q_refused cdv A outer s H E hr)
  exact G_law
instance tnD : Tn := ⟨fun _ => "", []⟩
end Mir.K19
namespace Mir.K19
open PySem PySem.Spec PyProof.Rows L2
set_option maxHeartbeats 1000000
theorem is_whole_int (i : Int) : d_is_whole [.int i] = .ok (.bl true) := by kernel_rfl
theorem has_turn (rs x : List Int) (i n : Int) (h0 : 0 ≤ i) (h1 : i < n) (a b : Slot) : Rounds_has_l1 (.tup [.int i, .int n]) [.sh (gR rs), .sh (tuI x), a, b] = .nx [.sh (gR rs), .sh (tuI x), .sh (.int i), .sh (.int n)] := by
  have z1 : ¬ i < 0 := by omega
  have z2 : ¬ n ≤ i := by omega
  simp [Rounds_has_l1, is_whole_int, z1, z2]
theorem has_ok {rs x : List Int} (h : OkE rs x) : d_Rounds_has [gR rs, tuI x] = .ok (.bl true) := by
  refine runD_rt rfl ?_
  have st : startD N_Rounds_has.length [gR rs, tuI x] = [.sh (gR rs), .sh (tuI x), .un, .un] := rfl
  rw [st]
  have z : zip2D [tuI x, tuI rs] = .ok (zipL2 (x.map .int) (rs.map .int)) := rfl
  obtain ⟨r', loop, a, b, rfl⟩ := forD_all (f := Rounds_has_l1) (ds := zipL2 (x.map .int) (rs.map .int)) (fun r => ∃ a b, r = [.sh (gR rs), .sh (tuI x), a, b]) (fun d hd r ⟨a, b, e⟩ => by
    obtain ⟨p, hp, rfl⟩ := mem_zip2 hd
    obtain ⟨h1, h2⟩ := h.at_ p hp
    subst e
    exact ⟨_, has_turn rs x p.1 p.2 h1 h2 a b, _, _, rfl⟩) (r := [.sh (gR rs), .sh (tuI x), .un, .un]) ⟨.un, .un, rfl⟩
  unfold e_Rounds_has
  simp [is_tuple, fld_rounds, h.len, z, loop]
theorem put_ok {rs x y : List Int} (h : OkR rs) (h1 : x.length = rs.length) (h2 : y.length = rs.length) : d_Rounds_put [gR rs, tuI x, tuI y] = .ok (tuI (putV rs x y)) := by
  refine runD_rt rfl ?_
  have st : startD N_Rounds_put.length [gR rs, tuI x, tuI y] = [.sh (gR rs), .sh (tuI x), .sh (tuI y), .un, .un, .un] := rfl
  rw [st]
  have z : zip3D [tuI x, tuI y, tuI rs] = .ok (zipL3 (x.map .int) (y.map .int) (rs.map .int)) := rfl
  have c : Rounds_put_c1 [.sh (gR rs), .sh (tuI x), .sh (tuI y), .un, .un, .un] (zipL3 (x.map .int) (y.map .int) (rs.map .int)) = .ok ((putV rs x y).map .int) := by
    unfold Rounds_put_c1
    have e : zipL3 (x.map D.int) (y.map D.int) (rs.map D.int) = (x.zip (y.zip rs)).map fun p => .tup [.int p.1, .int p.2.1, .int p.2.2] := by
      unfold zipL3
      rw [List.zip_map, List.zip_map, List.map_map]
      rfl
    rw [e]
    have m : ∀ p ∈ x.zip (y.zip rs), 0 < p.2.2 := fun p hp => by
      have q := (List.of_mem_zip (List.of_mem_zip hp).2).2
      have q2 : (2 : Int) ≤ p.2.2 := h.two _ q
      omega
    rw [lcD_map (fun d => match d with | .tup [.int a, .int b, .int n] => .int ((a + b) % n) | _ => .non) (fun d hd => by
      obtain ⟨p, hp, rfl⟩ := List.mem_map.mp hd
      refine ⟨_, rfl, rfl, ?_⟩
      simp [wipeR, modD_ok (m p hp)])]
    rw [List.map_map]
    unfold putV
    rw [List.map_map]
    rfl
  have l7 := h.len
  have hl : (putV rs x y).length ≤ lim := by rw [putV_len h1 h2]; unfold lim; omega
  unfold e_Rounds_put
  simp [fld_rounds, z, c, hl]
theorem backed_ok {rs x : List Int} (h : OkR rs) (h1 : x.length = rs.length) : d_Rounds_backed [gR rs, tuI x] = .ok (tuI (backV rs x)) := by
  refine runD_rt rfl ?_
  have st : startD N_Rounds_backed.length [gR rs, tuI x] = [.sh (gR rs), .sh (tuI x), .un, .un] := rfl
  rw [st]
  have z : zip2D [tuI x, tuI rs] = .ok (zipL2 (x.map .int) (rs.map .int)) := rfl
  have c : Rounds_backed_c1 [.sh (gR rs), .sh (tuI x), .un, .un] (zipL2 (x.map .int) (rs.map .int)) = .ok ((backV rs x).map .int) := by
    unfold Rounds_backed_c1
    have e : zipL2 (x.map D.int) (rs.map D.int) = (x.zip rs).map fun p => .tup [.int p.1, .int p.2] := by
      unfold zipL2
      rw [List.zip_map, List.map_map]
      rfl
    rw [e]
    have m : ∀ p ∈ x.zip rs, 0 < p.2 := fun p hp => by
      have q2 : (2 : Int) ≤ p.2 := h.two _ (List.of_mem_zip hp).2
      omega
    rw [lcD_map (fun d => match d with | .tup [.int a, .int n] => .int ((0 - a) % n) | _ => .non) (fun d hd => by
      obtain ⟨p, hp, rfl⟩ := List.mem_map.mp hd
      refine ⟨_, rfl, rfl, ?_⟩
      simp [wipeR, modD_ok (m p hp)])]
    rw [List.map_map]
    unfold backV
    rw [List.map_map]
    rfl
  have l7 := h.len
  have hl : (backV rs x).length ≤ lim := by rw [backV_len h1]; unfold lim; omega
  unfold e_Rounds_backed
  simp [fld_rounds, z, c, hl]
theorem nought_ok {rs : List Int} (h : OkR rs) : d_Rounds_nought [gR rs] = .ok (tuI (zeroV rs)) := by
  refine runD_rt rfl ?_
  have st : startD N_Rounds_nought.length [gR rs] = [.sh (gR rs), .un] := rfl
  rw [st]
  have c : Rounds_nought_c1 [.sh (gR rs), .un] (rs.map .int) = .ok ((zeroV rs).map .int) := by
    unfold Rounds_nought_c1
    rw [lcD_map (g := nameG 1) (t := fun _ => .ok true) (f := fun _ => .ok (.int 0)) (fun _ => .int 0) (fun d hd => ⟨_, rfl, rfl, rfl⟩), List.map_map]
    unfold zeroV
    rw [List.map_map]
    rfl
  have l7 := h.len
  have hl : (zeroV rs).length ≤ lim := by unfold zeroV lim; simp; omega
  unfold e_Rounds_nought
  simp [fld_rounds, c, hl]
theorem look_ok {rs x : List Int} (h : OkE rs x) : d_Group_look_at [gR rs, tuI x] = .ok .non := by
  refine runD_nx (r := [.sh (gR rs), .sh (tuI x)]) rfl ?_
  have st : startD N_Group_look_at.length [gR rs, tuI x] = [.sh (gR rs), .sh (tuI x)] := rfl
  rw [st]
  unfold e_Group_look_at
  simp [mthD, mt_has, mt_has_T, has_ok h]
theorem added_ok {rs x y : List Int} (h : OkR rs) (hx : OkE rs x) (hy : OkE rs y) : d_Group_added [gR rs, tuI x, tuI y] = .ok (tuI (putV rs x y)) := by
  refine runD_rt rfl ?_
  have st : startD N_Group_added.length [gR rs, tuI x, tuI y] = [.sh (gR rs), .sh (tuI x), .sh (tuI y)] := rfl
  rw [st]
  unfold e_Group_added
  simp [mthD, mt_look_at, mt_look_at_T, mt_put, mt_put_T, look_ok hx, look_ok hy, put_ok h hx.len hy.len]
theorem rounds_turn (src : D) (m n : Int) (h2 : 2 ≤ n) (h144 : n ≤ 144) (a : Slot) : are_rounds_l1 (.int n) [.sh src, .sh (.int m), a] = .nx [.sh src, .sh (.int (m * n)), .sh (.int n)] := by
  have z1 : ¬ n < 2 := by omega
  have z2 : ¬ 144 < n := by omega
  have z3 : mulD (.int m) (.int n) = .ok (.int (m * n)) := mulD_small (.inr ⟨by omega, by omega⟩)
  simp [are_rounds_l1, is_whole_int, z1, z2, z3]
theorem rounds_ok {rs : List Int} (h : OkG rs) (src : D) (hs : src = tuI rs ∨ src = liI rs) : d_are_rounds [src] = .ok (.bl true) := by
  refine runD_rt rfl ?_
  have st : startD N_are_rounds.length [src] = [.sh src, .un, .un] := rfl
  rw [st]
  have hi := is_seq src rs hs isC isU
  have hl : lenD src = .ok (.int rs.length) := by rcases hs with rfl | rfl <;> simp
  have it : itemsD src = .ok (rs.map .int) := by rcases hs with rfl | rfl <;> rfl
  have l7 := h.ok.len
  obtain ⟨r', loop, a, rfl⟩ := forD_ix (f := are_rounds_l1) (ds := rs.map .int) (fun i r => ∃ a, r = [.sh src, .sh (.int ((rs.take i).foldl (· * ·) 1)), a]) (fun i d hd r ⟨a, e⟩ => by
    rw [List.getElem?_map, Option.map_eq_some_iff] at hd
    obtain ⟨n, hn, rfl⟩ := hd
    subst e
    have hm := List.mem_of_getElem? hn
    refine ⟨_, rounds_turn src _ n (h.ok.two n hm) (h.most n hm) a, .sh (.int n), ?_⟩
    rw [take_more hn, List.foldl_append]
    rfl) (r := [.sh src, .sh (.int 1), .un]) ⟨.un, rfl⟩
  rw [List.length_map, List.take_length] at loop
  have z : ¬ (7 : Int) < rs.length := by omega
  unfold e_are_rounds
  simp [-itemsD, hi, hl, it, z, loop, h.prod, lim]
theorem init_ok {rs : List Int} (h : OkG rs) (src : D) (hs : src = tuI rs ∨ src = liI rs) : d_Rounds_init [src] = .ok (gR rs) := by
  have e1 : e_Rounds_init (startI N_Rounds_init.length 0 [src]) = .nx [.ow .flat (gR rs), .sh src] := by
    have st : startI N_Rounds_init.length 0 [src] = [.ow .flat (.obj 0 []), .sh src] := rfl
    rw [st]
    have tu : tupleD src = .ok (tuI rs) := by rcases hs with rfl | rfl <;> rfl
    unfold e_Rounds_init
    simp only [getS_succ, getS0, ok_bind, one, rounds_ok h src hs, asB_bl, lift_ok, Bool.not_true, Bool.false_eq_true, if_false, nx_seq, tu]
    rfl
  exact runI_nx rfl e1
theorem is_whole_any {d : D} (h : plainD d = true) : d_is_whole [d] = .ok (.bl (isW d)) := by
  cases d <;> first | (cases h; done) | kernel_rfl
theorem has_any {rs : List Int} {d : D} (h : plainT d = true) : d_Rounds_has [gR rs, d] = .ok (.bl (elB rs d)) := by
  refine runD_rt rfl ?_
  simp only [startD, N_Rounds_has, List.length_cons, List.length_nil, List.map_cons, List.map_nil, Nat.reduceAdd, Nat.reduceSub, Nat.zero_add, List.replicate, List.cons_append, List.nil_append]
  have it := is_tuple_any h isC isU
  cases d with
  | tup ds =>
    have h : ds.all plainD = true := h
    simp only at it
    have z : zip2D [.tup ds, tuI rs] = .ok (zipL2 ds (rs.map .int)) := rfl
    by_cases hl : ds.length = rs.length
    · have loop := forD_any (f := Rounds_has_l1) (fun r => ∃ a b, r = [.sh (gR rs), .sh (.tup ds), a, b]) (fun e => match e with
        | .tup [a, .int i] => !inB a i
        | _ => false) (.bl false) (ds := zipL2 ds (rs.map .int)) (r := [.sh (gR rs), .sh (.tup ds), .un, .un]) (fun e he r ⟨a, b, er⟩ => by
          subst er
          obtain ⟨p, hp, rfl⟩ := mem_zip_any he
          have pl : plainD p.1 = true := List.all_eq_true.mp h _ (List.of_mem_zip hp).1
          have w := is_whole_any pl
          cases hb : inB p.1 p.2 with
          | true =>
            rw [if_neg (by simp [hb])]
            obtain ⟨i, m⟩ := p
            cases i with
            | int i =>
              have hb' : 0 ≤ i ∧ i < m := by simpa [inB] using hb
              have w2 : d_is_whole [D.int i] = .ok (.bl true) := w
              refine ⟨_, ?_, .sh (.int i), .sh (.int m), rfl⟩
              have z1 : ¬ i < 0 := by omega
              have z2 : ¬ m ≤ i := by omega
              simp [Rounds_has_l1, w2, z1, z2]
            | _ => simp [inB] at hb
          | false =>
            rw [if_pos (by simp [hb])]
            obtain ⟨i, m⟩ := p
            cases i with
            | int i =>
              have w2 : d_is_whole [D.int i] = .ok (.bl true) := w
              have hb' : i < 0 ∨ m ≤ i := by
                have : ¬ (0 ≤ i ∧ i < m) := by simpa [inB] using hb
                omega
              by_cases z1 : i < 0
              · simp [Rounds_has_l1, w2, z1]
              · have z2 : m ≤ i := by omega
                simp [Rounds_has_l1, w2, z1, z2]
            | _ =>
              simp only [isW] at w
              simp [Rounds_has_l1, w]) ⟨_, _, rfl⟩
      rw [any_zip (fun a i => !inB a i) _ fun _ _ => rfl] at loop
      have hb : elB rs (.tup ds) = !((ds.zip rs).any fun p => !inB p.1 p.2) := by
        show (decide (ds.length = rs.length) && (ds.zip rs).all fun p => inB p.1 p.2) = _
        rw [decide_eq_true hl, Bool.true_and, List.all_eq_not_any_not]
      rw [hb]
      cases ha : (ds.zip rs).any fun p => !inB p.1 p.2 with
      | true =>
        rw [ha, if_pos rfl] at loop
        simp [e_Rounds_has, it, fld_rounds, hl, z, loop]
      | false =>
        rw [ha, if_neg (by simp)] at loop
        obtain ⟨r', e, _⟩ := loop
        simp [e_Rounds_has, it, fld_rounds, hl, z, e]
    · have hb : elB rs (.tup ds) = false := by
        show (decide (ds.length = rs.length) && (ds.zip rs).all fun p => inB p.1 p.2) = _
        rw [decide_eq_false hl, Bool.false_and]
      have hl' : ¬ ((ds.length : Int) = rs.length) := by omega
      simp [e_Rounds_has, it, fld_rounds, hl, hl', hb]
  | _ => first | (cases h; done) | (simp only at it; simp [e_Rounds_has, it, elB])
theorem members_ok {rs : List Int} (h : OkR rs) (hb : ∀ n ∈ rs, n ≤ 144) (hp : rs.foldl (· * ·) 1 ≤ 144) : d_Rounds_members [gR rs] = .ok (.lst ((mems rs).map tuI)) := by
  have l7 := h.len
  -- one element made longer
  have c1 : ∀ (n : Int) (x : List Int) (s1 s2 s3 s4 : Slot), 2 ≤ n → n ≤ 144 → x.length < 1000 → Rounds_members_c1 [s1, s2, .sh (.int n), s3, .sh (tuI x), s4] (rangeL 0 n.toNat) = .ok (((List.range n.toNat).map fun i : Nat => x ++ [(i : Int)]).map tuI) := fun n x s1 s2 s3 s4 h2 h3 hx => by
    unfold Rounds_members_c1
    rw [List.map_map]
    refine lcD_range _ fun k hk => ⟨rfl, ?_⟩
    have hl : x.length + 1 ≤ lim := by unfold lim; omega
    have l1 : 1 ≤ lim := by decide
    simp [wipeR, hl, l1]
  have bound : ∀ (l : List Int) (S : List (List Int)), (∀ n ∈ l, 2 ≤ n) → S.length ≤ (l.foldl memsStep S).length := fun l => by
    induction l with
    | nil => intro S _; exact Nat.le_refl _
    | cons n l ih =>
      intro S hl
      have := ih (memsStep S n) fun m hm => hl m (List.mem_cons_of_mem _ hm)
      have hn := hl n List.mem_cons_self
      rw [step_len] at this
      have : S.length * 1 ≤ S.length * n.toNat := Nat.mul_le_mul_left _ (by omega)
      rw [List.foldl_cons]
      omega
  have tot : (mems rs).length ≤ 144 := by
    have := mems_len (rs := rs) fun n hn => by have := h.two n hn; omega
    omega
  obtain ⟨r', loop, s2, s3, s4, rfl⟩ := forD_row (pre0 := rs) (f := Rounds_members_l3) D.int (fun pre r => ∃ s2 s3 s4, r = [.sh (gR rs), .sh (.lst ((mems pre).map tuI)), s2, s3, s4, .un]) (ds := rs) (pre := []) (r := [.sh (gR rs), .sh (.lst [.tup []]), .un, .un, .un, .un]) (fun pre n hpre r ⟨s2, s3, s4, e⟩ => by
    subst e
    obtain ⟨post, hpost⟩ := hpre
    have hn : n ∈ rs := by rw [← hpost]; simp
    have n2 := h.two n hn
    have n3 := hb n hn
    have lenp : pre.length < 1000 := by
      have := congrArg List.length hpost
      simp at this
      omega
    have elen : ∀ x ∈ mems pre, x.length < 1000 := fun x hx => by
      have := (mem_mems.mp hx).len
      omega
    have small : (memsStep (mems pre) n).length ≤ 144 := by
      have e : mems rs = post.foldl memsStep (memsStep (mems pre) n) := by
        unfold mems
        rw [← hpost, List.foldl_append, List.foldl_append]
        rfl
      have := bound post (memsStep (mems pre) n) fun m hm => h.two m (by rw [← hpost]; simp [hm])
      rw [← e] at this
      omega
    have r1 : rng1 [.int n] = .ok (rangeL 0 n.toNat) := rng1_ok (by omega) (by omega)
    obtain ⟨r2, in2, t4, rfl⟩ := forD_row (pre0 := mems pre) (f := Rounds_members_l2) tuI (fun done r => ∃ t4, r = [.sh (gR rs), .sh (.lst ((mems pre).map tuI)), .sh (.int n), .ow .flat (.lst ((memsStep done n).map tuI)), t4, .un]) (ds := mems pre) (pre := []) (r := [.sh (gR rs), .sh (.lst ((mems pre).map tuI)), .sh (.int n), .ow .flat (.lst []), s4, .un]) (fun done x hd r ⟨t4, e⟩ => by
      subst e
      obtain ⟨rest, hr⟩ := hd
      have hx : x ∈ mems pre := by rw [← hr]; simp
      have eq : memsStep (done ++ [x]) n = memsStep done n ++ (List.range n.toNat).map fun i : Nat => x ++ [(i : Int)] := by
        unfold memsStep
        simp
      have le : (memsStep done n).length + ((List.range n.toNat).map fun i : Nat => x ++ [(i : Int)]).length ≤ lim := by
        rw [← List.length_append, ← eq, step_len]
        rw [step_len, ← hr] at small
        simp at small
        have : (done ++ [x]).length * n.toNat ≤ (done.length + (rest.length + 1)) * n.toNat := Nat.mul_le_mul_right _ (by simp)
        unfold lim
        omega
      have q := c1 n x (.sh (gR rs)) (.sh (.lst ((mems pre).map tuI))) (.ow .flat (.lst ((memsStep done n).map tuI))) .un n2 n3 (elen x hx)
      have l0 : ((List.range n.toNat).map fun i : Nat => x ++ [(i : Int)]).length ≤ lim := by omega
      generalize ((List.range n.toNat).map fun i : Nat => x ++ [(i : Int)]) = L at *
      refine ⟨_, ?_, .sh (tuI x), rfl⟩
      rw [eq]
      simp [Rounds_members_l2, extG, ownL, r1, q, le, l0]) rfl ⟨_, rfl⟩
    refine ⟨[.sh (gR rs), .sh (.lst ((mems (pre ++ [n])).map tuI)), .sh (.int n), .sh (.lst ((memsStep (mems pre) n).map tuI)), t4, .un], ?_, _, _, _, rfl⟩
    have eq : mems (pre ++ [n]) = memsStep (mems pre) n := by unfold mems; rw [List.foldl_append]; rfl
    simp only [List.nil_append] at in2
    rw [eq]
    simp [Rounds_members_l3, in2, freeze]) rfl ⟨_, _, _, rfl⟩
  simp only [List.nil_append] at loop
  refine runD_rt rfl ?_
  simp only [startD, N_Rounds_members, List.length_cons, List.length_nil, List.map_cons, List.map_nil, Nat.reduceAdd, Nat.reduceSub, Nat.zero_add, List.replicate, List.cons_append, List.nil_append]
  have l0 : 0 ≤ lim := by decide
  have l1 : 1 ≤ lim := by decide
  simp [e_Rounds_members, fld_rounds, loop, l0, l1]
theorem size_ok {rs : List Int} (g : OkG rs) : d_Group_size [gR rs] = .ok (.int (rs.foldl (· * ·) 1)) := by
  refine runD_rt rfl ?_
  simp only [startD, N_Group_size, List.length_cons, List.length_nil, List.map_cons, List.map_nil, Nat.reduceAdd, Nat.reduceSub, Nat.zero_add, List.replicate, List.cons_append, List.nil_append]
  have m := members_ok g.ok g.most g.prod
  have l := mems_len (rs := rs) fun n hn => by have := g.ok.two n hn; omega
  simp [e_Group_size, mthD, mt_members, mt_members_T, m, l]
theorem even_ok (rs : List Int) : d_Rounds_is_even [gR rs] = .ok (.bl true) := by kernel_rfl
theorem is_rounds (rs : List Int) : isD isC isU (gR rs) (.cls 0) = .ok (.bl true) := by kernel_rfl
theorem fld_lower (lo up : List Int) (k : List D) : fldD (plOf [2] "lower") (.obj 2 (gR lo :: gR up :: k)) = .ok (gR lo) := by
  have e : plOf [2] "lower" 2 = some 0 := by kernel_rfl
  unfold fldD
  simp [e]
theorem fld_upper (lo up : List Int) (k : List D) : fldD (plOf [2] "upper") (.obj 2 (gR lo :: gR up :: k)) = .ok (gR up) := by
  have e : plOf [2] "upper" 2 = some 1 := by kernel_rfl
  unfold fldD
  simp [e]
/-- two groups that make a table -/
structure OkT (lo up : List Int) : Prop where
  g1 : OkG lo
  g2 : OkG up
  p1 : lo.foldl (· * ·) 1 ≤ 16
  p2 : up.foldl (· * ·) 1 ≤ 9
theorem OkT.mems_le {lo up : List Int} (t : OkT lo up) : (mems up).length ≤ 9 := by
  have := mems_len (rs := up) fun n hn => by have := t.g2.ok.two n hn; omega
  have := t.p2
  omega
theorem l_two : (2 : Nat) ≤ lim := by decide
theorem seq_nx {o : Oc} {B : Env → Oc} {v : D} {r1 : Env} (h : o = .nx r1) (k : B r1 = .rt v) : o.seq B = .rt v := by rw [h]; exact k
theorem seq_ex {o : Oc} {B : Env → Oc} {v : D} (P : Env → Prop) (h : ∃ r, o = .nx r ∧ P r) (k : ∀ r, P r → B r = .rt v) : o.seq B = .rt v := by
  obtain ⟨r, e, p⟩ := h
  rw [e]; exact k r p
theorem q_cell_ok (ns : List Int) (k : Int) (h0 : 0 ≤ k) (hlen : ns.length ≤ 63) (h1 : k ≤ 1000000) : ∃ c, d_q_cell [.scr ns, .int k] = .ok (.int c) := by
  have go : ∃ c, e_q_cell (startD N_q_cell.length [.scr ns, .int k]) = .rt (.int c) := by
    have st : startD N_q_cell.length [.scr ns, .int k] = [.sh (.scr ns), .sh (.int k), .un, .un] := rfl
    rw [st]
    unfold e_q_cell
    have pw : powD (.int 10) (.int 18) = .ok (.int 1000000000000000000) := by kernel_rfl
    have m1 := fun c : Int => mulD_small (i := c) (j := 48271) (.inr ⟨by omega, by omega⟩)
    have m2 := mulD_small (i := 16807) (j := k) (.inl ⟨by omega, by omega⟩)
    have m3 := fun c : Int => mulD_small (i := c) (j := 69621) (.inr ⟨by omega, by omega⟩)
    by_cases hn : 0 < ns.length
    · have hm := Int.emod_nonneg k (b := (ns.length : Int)) (by omega)
      have hm2 := Int.emod_lt_of_pos k (b := (ns.length : Int)) (by omega)
      have hix : ixD (.scr ns) (.int (k % ns.length)) = .ok (.int (ns.getD (k % ns.length).toNat 0)) := by
        rw [ixD_scr, atI_getD hm hm2]
      have mdl := modD_ok (i := k) (j := (ns.length : Int)) (by omega)
      generalize ns.getD (k % ns.length).toNat 0 = c at hix
      by_cases hb : 1 < ns.length
      · have hz : (0 : Int) < (ns.length : Int) - 1 := by omega
        have hz1 : (1 : Int) < (ns.length : Int) := by omega
        have a0 := Int.emod_nonneg k (b := (ns.length : Int) - 1) (by omega)
        have a1 := Int.emod_lt_of_pos k (b := (ns.length : Int) - 1) hz
        have md := modD_ok (i := k) (j := (ns.length : Int) - 1) hz
        have i0 : ixD (.scr ns) (.int 0) = .ok (.int (ns.getD 0 0)) := by
          rw [ixD_scr, atI_getD (by omega) (by omega)]; rfl
        have i1 : ixD (.scr ns) (.int (1 + k % ((ns.length : Int) - 1))) = .ok (.int (ns.getD (1 + k % ((ns.length : Int) - 1)).toNat 0)) := by
          rw [ixD_scr, atI_getD (by omega) (by omega)]
        generalize ns.getD (1 + k % ((ns.length : Int) - 1)).toNat 0 = c1 at i1
        by_cases hs : ns.getD 0 0 % 2 = 1
        · have hd : bits ((ns.length : Int) - 1) < 250 := by
            have := bits_lt (i := (ns.length : Int) - 1) (n := 8) (by omega) (by omega)
            omega
          · have dv := divD_ok (i := k) (j := (ns.length : Int) - 1) hz hd
            have q0 : 0 ≤ k / ((ns.length : Int) - 1) := Int.ediv_nonneg h0 (by omega)
            have q1 : k / ((ns.length : Int) - 1) ≤ k := Int.ediv_le_self _ h0
            have m5 := mulD_small (i := 31) (j := k / ((ns.length : Int) - 1)) (.inr ⟨by omega, by omega⟩)
            have sh : shrD (.int c1) (.int (31 * (k / ((ns.length : Int) - 1)))) = .ok (.int (c1 / 2 ^ (31 * (k / ((ns.length : Int) - 1))).toNat)) := if_pos (by omega)
            generalize 31 * (k / ((ns.length : Int) - 1)) = e at m5 sh
            generalize c1 / 2 ^ e.toNat = z at sh
            have mz := modD_ok (i := z) (j := 2147483648) (by omega)
            refine ⟨z % 2147483648, ?_⟩
            generalize z % 2147483648 = R at mz ⊢
            simp [-ixD_scr, -List.getD_eq_getElem?_getD, i0, hz, hz1, hs, modD_ok, md, i1, dv, m5, sh, mz]
        · refine ⟨(c % 1000000000000000000 * 48271 + 16807 * k) % 2147483647 * 69621 % 2147483629, ?_⟩
          simp [-ixD_scr, -List.getD_eq_getElem?_getD, i0, hz, hz1, hs, modD_ok, hn, mdl, hix, pw, m1, m2, m3]
      · have hz : ¬ (0 : Int) < (ns.length : Int) - 1 := by omega
        have hz1 : ¬ (1 : Int) < (ns.length : Int) := by omega
        refine ⟨(c % 1000000000000000000 * 48271 + 16807 * k) % 2147483647 * 69621 % 2147483629, ?_⟩
        simp [-ixD_scr, -Int.not_lt, hz, hz1, hn, modD_ok, mdl, hix, pw, m1, m2, m3]
    · have hz : ¬ (0 : Int) < (ns.length : Int) - 1 := by omega
      have hz1 : ¬ (1 : Int) < (ns.length : Int) := by omega
      refine ⟨(0 * 48271 + 16807 * k) % 2147483647 * 69621 % 2147483629, ?_⟩
      simp [-Int.not_lt, -Nat.not_lt, hz, hz1, hn, modD_ok, pw, m1, m2, m3]
  obtain ⟨c, e⟩ := go
  exact ⟨c, runD_rt rfl e⟩
theorem q_elements_ok {rs : List Int} (h : OkR rs) (hb : ∀ n ∈ rs, n ≤ 144) (hp : rs.foldl (· * ·) 1 ≤ 144) : d_q_elements [tuI rs] = .ok (.lst ((mems rs).map tuI)) := by
  have l7 := h.len
  -- one element made longer
  have c1 : ∀ (n : Int) (x : List Int) (s1 s2 s3 s4 : Slot), 2 ≤ n → n ≤ 144 → x.length < 1000 → q_elements_c1 [s1, s2, .sh (.int n), s3, .sh (tuI x), s4] (rangeL 0 n.toNat) = .ok (((List.range n.toNat).map fun i : Nat => x ++ [(i : Int)]).map tuI) := fun n x s1 s2 s3 s4 h2 h3 hx => by
    unfold q_elements_c1
    rw [List.map_map]
    refine lcD_range _ fun k hk => ⟨rfl, ?_⟩
    have hl : x.length + 1 ≤ lim := by unfold lim; omega
    have l1 : 1 ≤ lim := by decide
    simp [wipeR, hl, l1]
  have bound : ∀ (l : List Int) (S : List (List Int)), (∀ n ∈ l, 2 ≤ n) → S.length ≤ (l.foldl memsStep S).length := fun l => by
    induction l with
    | nil => intro S _; exact Nat.le_refl _
    | cons n l ih =>
      intro S hl
      have := ih (memsStep S n) fun m hm => hl m (List.mem_cons_of_mem _ hm)
      have hn := hl n List.mem_cons_self
      rw [step_len] at this
      have : S.length * 1 ≤ S.length * n.toNat := Nat.mul_le_mul_left _ (by omega)
      rw [List.foldl_cons]
      omega
  have tot : (mems rs).length ≤ 144 := by
    have := mems_len (rs := rs) fun n hn => by have := h.two n hn; omega
    omega
  obtain ⟨r', loop, s2, s3, s4, rfl⟩ := forD_row (pre0 := rs) (f := q_elements_l3) D.int (fun pre r => ∃ s2 s3 s4, r = [.sh (tuI rs), .sh (.lst ((mems pre).map tuI)), s2, s3, s4, .un]) (ds := rs) (pre := []) (r := [.sh (tuI rs), .sh (.lst [.tup []]), .un, .un, .un, .un]) (fun pre n hpre r ⟨s2, s3, s4, e⟩ => by
    subst e
    obtain ⟨post, hpost⟩ := hpre
    have hn : n ∈ rs := by rw [← hpost]; simp
    have n2 := h.two n hn
    have n3 := hb n hn
    have lenp : pre.length < 1000 := by
      have := congrArg List.length hpost
      simp at this
      omega
    have elen : ∀ x ∈ mems pre, x.length < 1000 := fun x hx => by
      have := (mem_mems.mp hx).len
      omega
    have small : (memsStep (mems pre) n).length ≤ 144 := by
      have e : mems rs = post.foldl memsStep (memsStep (mems pre) n) := by
        unfold mems
        rw [← hpost, List.foldl_append, List.foldl_append]
        rfl
      have := bound post (memsStep (mems pre) n) fun m hm => h.two m (by rw [← hpost]; simp [hm])
      rw [← e] at this
      omega
    have r1 : rng1 [.int n] = .ok (rangeL 0 n.toNat) := rng1_ok (by omega) (by omega)
    obtain ⟨r2, in2, t4, rfl⟩ := forD_row (pre0 := mems pre) (f := q_elements_l2) tuI (fun done r => ∃ t4, r = [.sh (tuI rs), .sh (.lst ((mems pre).map tuI)), .sh (.int n), .ow .flat (.lst ((memsStep done n).map tuI)), t4, .un]) (ds := mems pre) (pre := []) (r := [.sh (tuI rs), .sh (.lst ((mems pre).map tuI)), .sh (.int n), .ow .flat (.lst []), s4, .un]) (fun done x hd r ⟨t4, e⟩ => by
      subst e
      obtain ⟨rest, hr⟩ := hd
      have hx : x ∈ mems pre := by rw [← hr]; simp
      have eq : memsStep (done ++ [x]) n = memsStep done n ++ (List.range n.toNat).map fun i : Nat => x ++ [(i : Int)] := by
        unfold memsStep
        simp
      have le : (memsStep done n).length + ((List.range n.toNat).map fun i : Nat => x ++ [(i : Int)]).length ≤ lim := by
        rw [← List.length_append, ← eq, step_len]
        rw [step_len, ← hr] at small
        simp at small
        have : (done ++ [x]).length * n.toNat ≤ (done.length + (rest.length + 1)) * n.toNat := Nat.mul_le_mul_right _ (by simp)
        unfold lim
        omega
      have q := c1 n x (.sh (tuI rs)) (.sh (.lst ((mems pre).map tuI))) (.ow .flat (.lst ((memsStep done n).map tuI))) .un n2 n3 (elen x hx)
      have l0 : ((List.range n.toNat).map fun i : Nat => x ++ [(i : Int)]).length ≤ lim := by omega
      generalize ((List.range n.toNat).map fun i : Nat => x ++ [(i : Int)]) = L at *
      refine ⟨_, ?_, .sh (tuI x), rfl⟩
      rw [eq]
      simp [q_elements_l2, extG, ownL, r1, q, le, l0]) rfl ⟨_, rfl⟩
    refine ⟨[.sh (tuI rs), .sh (.lst ((mems (pre ++ [n])).map tuI)), .sh (.int n), .sh (.lst ((memsStep (mems pre) n).map tuI)), t4, .un], ?_, _, _, _, rfl⟩
    have eq : mems (pre ++ [n]) = memsStep (mems pre) n := by unfold mems; rw [List.foldl_append]; rfl
    simp only [List.nil_append] at in2
    rw [eq]
    simp [q_elements_l3, in2, freeze]) rfl ⟨_, _, _, rfl⟩
  simp only [List.nil_append] at loop
  refine runD_rt rfl ?_
  simp only [startD, N_q_elements, List.length_cons, List.length_nil, List.map_cons, List.map_nil, Nat.reduceAdd, Nat.reduceSub, Nat.zero_add, List.replicate, List.cons_append, List.nil_append]
  have l0 : 0 ≤ lim := by decide
  have l1 : 1 ≤ lim := by decide
  simp [e_q_elements, loop, l0, l1]
theorem q_plus_ok {rs x y : List Int} (h : OkR rs) (h1 : x.length = rs.length) (h2 : y.length = rs.length) : d_q_plus [tuI rs, tuI x, tuI y] = .ok (tuI (putV rs x y)) := by
  refine runD_rt rfl ?_
  simp only [startD, N_q_plus, List.length_cons, List.length_nil, List.map_cons, List.map_nil, Nat.reduceAdd, Nat.reduceSub, Nat.zero_add, List.replicate, List.cons_append, List.nil_append]
  have c : q_plus_c1 [.sh (tuI rs), .sh (tuI x), .sh (tuI y), .un, .un, .un] (zipL3 (x.map .int) (y.map .int) (rs.map .int)) = .ok ((putV rs x y).map .int) := by
    unfold q_plus_c1 putV
    rw [List.map_map]
    refine lcD_zip3 _ fun p hp => ⟨rfl, ?_⟩
    have q : (2 : Int) ≤ p.2.2 := h.two _ (List.of_mem_zip (List.of_mem_zip hp).2).2
    simp [wipeR, modD_ok (show 0 < p.2.2 by omega)]
  have z : zip3D [tuI x, tuI y, tuI rs] = .ok (zipL3 (x.map .int) (y.map .int) (rs.map .int)) := rfl
  have l7 := h.len
  have hl : (putV rs x y).length ≤ lim := by rw [putV_len h1 h2]; unfold lim; omega
  simp [e_q_plus, z, c, hl]
theorem enum_ints (rs : List Int) : enumS [tuI rs] = .ok ((List.range rs.length).map fun i : Nat => .tup [.int i, .int (rs.getD i 0)]) := by
  show Res.ok (enumL (rs.map D.int)) = _
  congr 1
  unfold enumL
  refine List.ext_getElem? fun j => ?_
  rw [List.getElem?_map, List.getElem?_map, List.getElem?_zipIdx]
  by_cases hj : j < rs.length
  · have e1 : (rs.map D.int)[j]? = some (.int (rs.getD j 0)) := by
      rw [List.getElem?_map, List.getD_eq_getElem?_getD, List.getElem?_eq_getElem hj]; rfl
    rw [e1, List.getElem?_range hj]
    simp
  · rw [List.getElem?_eq_none (by rw [List.length_map]; omega), List.getElem?_eq_none (by rw [List.length_range]; omega)]
    rfl
theorem emod_w (x m : Int) : ∃ q, x % m = x + m * q := ⟨-(x / m), by rw [Int.emod_def, Int.mul_neg]; omega⟩
theorem emod_of {a b m : Int} (q : Int) (h : a = b + m * q) : a % m = b % m := by rw [h, Int.add_mul_emod_self_left]
theorem neD_refl {d : D} (h : okQ 64 d = true) : neD d d = .ok (.bl false) := by rw [neD_ok h h, eqQ_refl 64 _ h]; rfl
/-- the tower of a table -/
abbrev towD (lo up : List Int) (c : List Int → List Int → List Int) : D := .obj 1 [tabD lo up c, tuI (c (zeroV up) (zeroV up))]
theorem fld_table (T g : D) : fldD (plOf [1] "table") (.obj 1 [T, g]) = .ok T := by kernel_rfl
theorem fld_ground (T g : D) : fldD (plOf [1] "ground") (.obj 1 [T, g]) = .ok g := by kernel_rfl
theorem fld_lowerT (lo up : List Int) (c : List Int → List Int → List Int) : fldD (plOf [2] "lower") (tabD lo up c) = .ok (gR lo) := fld_lower lo up _
theorem fld_upperT (lo up : List Int) (c : List Int → List Int → List Int) : fldD (plOf [2] "upper") (tabD lo up c) = .ok (gR up) := fld_upper lo up _
theorem fld_tableT {lo up : List Int} {c : List Int → List Int → List Int} : fldD (plOf [1] "table") (towD lo up c) = .ok (tabD lo up c) := fld_table _ _
theorem put_backV {rs x : List Int} (h : OkR rs) (hl : x.length = rs.length) : putV rs x (backV rs x) = zeroV rs := by
  refine ext_getD (by rw [putV_len hl (backV_len hl)]; unfold zeroV; simp) fun i hi => ?_
  have hi : i < rs.length := by unfold zeroV at hi; simpa using hi
  rw [putV_at hi hl (backV_len hl), backV_at hi hl, zeroV_at]
  have := h.get hi
  obtain ⟨q1, h1⟩ := emod_w (0 - x.getD i 0) (rs.getD i 0)
  rw [h1, emod_of (b := 0) q1 (by omega), Int.zero_emod]
/-- whether a thing is an element of a tower -/
def elT (lo up : List Int) : D → Bool
  | .tup [a, b] => elB lo a && elB up b
  | _ => false
def plainP : D → Bool
  | .tup ds => ds.all plainT
  | d => plainD d
theorem thas_any {lo up : List Int} {c : List Int → List Int → List Int} {d : D} (h : plainP d = true) : d_Tower_has [towD lo up c, d] = .ok (.bl (elT lo up d)) := by
  have ft := fld_tableT (lo := lo) (up := up) (c := c)
  have fl := fld_lowerT lo up c
  have fu := fld_upperT lo up c
  have ml : mthD mt_has (gR lo) = .ok (fun ds => d_Rounds_has (gR lo :: ds)) := rfl
  have mu : mthD mt_has (gR up) = .ok (fun ds => d_Rounds_has (gR up :: ds)) := rfl
  refine runD_rt rfl ?_
  simp only [startD, N_Tower_has, List.length_cons, List.length_nil, List.map_cons, List.map_nil, Nat.reduceAdd, Nat.reduceSub, Nat.zero_add, List.replicate, List.cons_append, List.nil_append]
  generalize towD lo up c = TW at *
  generalize tabD lo up c = T at *
  have nt : ∀ d : D, isD isC isU d (.ty "tuple") = .ok (.bl false) → e_Tower_has [.sh TW, .sh d] = .rt (.bl false) := fun d q => by simp [e_Tower_has, q]
  cases d with
  | tup ds =>
    have it : isD isC isU (.tup ds) (.ty "tuple") = .ok (.bl true) := rfl
    have nl : ds.length ≠ 2 → e_Tower_has [.sh TW, .sh (.tup ds)] = .rt (.bl false) := fun q => by
      have q2 : ¬ ((ds.length : Int) = 2) := by omega
      simp [e_Tower_has, it, q2]
    match ds, h with
    | [], _ => exact nl (by simp)
    | [_], _ => exact nl (by simp)
    | _ :: _ :: _ :: _, _ => exact nl (by simp)
    | [a, b], h =>
      have hh : (plainT a && (plainT b && true)) = true := h
      simp only [Bool.and_true, Bool.and_eq_true] at hh
      have h1 := has_any (rs := lo) hh.1
      have h2 := has_any (rs := up) hh.2
      have i0 : ixD (.tup [a, b]) (.int 0) = .ok a := rfl
      have i1 : ixD (.tup [a, b]) (.int 1) = .ok b := rfl
      have ln : lenD (.tup [a, b]) = .ok (.int 2) := rfl
      show _ = Oc.rt (.bl (elB lo a && elB up b))
      generalize D.tup [a, b] = P at *
      generalize gR lo = GL at *
      generalize gR up = GU at *
      cases e1 : elB lo a <;> rw [e1] at h1 <;> simp [e_Tower_has, it, ln, ft, fl, fu, ml, mu, i0, i1, h1, h2]
  | _ => first | (exact nt _ rfl) | (cases h; done)
/-- the plain laws of a lower group of any make, and how its elements lie -/
structure LowG {α : Type} [DecidableEq α] (V : α → D) (els : List α) (put : α → α → α) (back : α → α) (zero : α) : Prop where
  nd : els.Nodup
  len : els.length ≤ 16
  putE : ∀ a ∈ els, ∀ b ∈ els, put a b ∈ els
  backE : ∀ a ∈ els, back a ∈ els
  zeroE : zero ∈ els
  assoc : ∀ a ∈ els, ∀ b ∈ els, ∀ c ∈ els, put (put a b) c = put a (put b c)
  comm : ∀ a ∈ els, ∀ b ∈ els, put a b = put b a
  pz : ∀ a ∈ els, put a zero = a
  pb : ∀ a ∈ els, put a (back a) = zero
  okV : ∀ a, okQ 64 (V a) = true
  eqq : ∀ a b, eqQ (V a) (V b) = decide (a = b)
theorem LowG.eqV {α : Type} [DecidableEq α] {V : α → D} {els : List α} {put : α → α → α} {back : α → α} {zero : α} (L : LowG V els put back zero) (a b : α) : eqD (V a) (V b) = .ok (.bl (decide (a = b))) := by rw [eqD_ok (L.okV a) (L.okV b), L.eqq]
theorem LowG.neV {α : Type} [DecidableEq α] {V : α → D} {els : List α} {put : α → α → α} {back : α → α} {zero : α} (L : LowG V els put back zero) (a b : α) : neD (V a) (V b) = .ok (.bl (!decide (a = b))) := by rw [neD_ok (L.okV a) (L.okV b), L.eqq]
/-- what the program's group answers: one method each -/
def HasF {α : Type} (V : α → D) (els : List α) (G : D) : Prop := ∃ f, mthD mt_has_T G = .ok f ∧ ∀ a ∈ els, f [V a] = .ok (.bl true)
def AddF {α : Type} (V : α → D) (els : List α) (put : α → α → α) (G : D) : Prop := ∃ f, mthD mt_added_T G = .ok f ∧ ∀ a ∈ els, ∀ b ∈ els, f [V a, V b] = .ok (V (put a b))
def SizeF (n : Int) (G : D) : Prop := ∃ f, mthD mt_size_T G = .ok f ∧ f [] = .ok (.int n)
def EvenF (G : D) : Prop := ∃ f, mthD mt_is_even_T G = .ok f ∧ f [] = .ok (.bl true)
def tabG {α : Type} (V : α → D) (G : D) (up : List Int) (c : List Int → List Int → α) : D := .obj 2 [G, gR up, dicF pkD V (prs up) fun p => c p.1 p.2]
def OkCG {α : Type} (els : List α) (up : List Int) (c : List Int → List Int → α) : Prop := ∀ x y, OkE up x → OkE up y → c x y ∈ els
/-- an upper group that a table takes -/
structure OkU (up : List Int) : Prop where
  g : OkG up
  p : up.foldl (· * ·) 1 ≤ 9
theorem OkU.mems_le {up : List Int} (u : OkU up) : (mems up).length ≤ 9 := by
  have := mems_len (rs := up) fun n hn => by have := u.g.ok.two n hn; omega
  have := u.p
  omega
theorem OkU.t {up : List Int} (u : OkU up) : OkT [] up := ⟨⟨⟨by simp, by simp⟩, by simp, by simp⟩, u.g, by simp, u.p⟩
theorem lookG_ok {G : D} {up : List Int} {n : Int} (s : SizeF n G) (h16 : n ≤ 16) (e : EvenF G) (u : OkU up) : d_look_at_groups [G, gR up] = .ok .non := by
  obtain ⟨fs, s1, s2⟩ := s
  obtain ⟨fe, e1, e2⟩ := e
  have sz := size_ok u.g
  have ms : mthD mt_size_T (gR up) = .ok (fun ds => d_Group_size (gR up :: ds)) := rfl
  have ir := is_rounds up
  have g1 : gtD (.int n) (.int 16) = .ok (.bl false) := by
    have : decide (n > 16) = false := decide_eq_false (by omega)
    show Res.ok (D.bl (decide (n > 16))) = _
    rw [this]
  have g2 : gtD (.int (up.foldl (· * ·) 1)) (.int 9) = .ok (.bl false) := by
    have := u.p
    have : decide (up.foldl (· * ·) 1 > 9) = false := decide_eq_false (by omega)
    show Res.ok (D.bl (decide (up.foldl (· * ·) 1 > 9))) = _
    rw [this]
  refine runD_nx (r := [.sh G, .sh (gR up)]) rfl ?_
  simp only [startD, N_look_at_groups, List.length_cons, List.length_nil, List.map_cons, List.map_nil, Nat.reduceAdd, Nat.reduceSub, Nat.zero_add, List.replicate, List.cons_append, List.nil_append]
  generalize up.foldl (· * ·) 1 = m at *
  generalize gR up = GU at *
  simp [-gtD_int, e_look_at_groups, s1, s2, e1, e2, sz, ms, ir, g1, g2]
theorem fldG_lower (G GU : D) (k : List D) : fldD (plOf [2] "lower") (.obj 2 (G :: GU :: k)) = .ok G := by
  have e : plOf [2] "lower" 2 = some 0 := by kernel_rfl
  unfold fldD
  simp [e]
theorem fldG_upper (G GU : D) (k : List D) : fldD (plOf [2] "upper") (.obj 2 (G :: GU :: k)) = .ok GU := by
  have e : plOf [2] "upper" 2 = some 1 := by kernel_rfl
  unfold fldD
  simp [e]
theorem fldG_kept (G GU d : D) : fldD (plOf [2] "kept") (.obj 2 [G, GU, d]) = .ok d := by
  have e : plOf [2] "kept" 2 = some 2 := by kernel_rfl
  unfold fldD
  simp [e]
theorem tableG_ok {α : Type} {V : α → D} {els : List α} {G : D} {up : List Int} {n : Int} {c : List Int → List Int → α} (hs : SizeF n G) (h16 : n ≤ 16) (he : EvenF G) (u : OkU up) (hf : HasF V els G) (cd : D)
    (h : ∀ x y, OkE up x → OkE up y → notInD (pkD (x, y)) cd = .ok (.bl false) ∧ ixD cd (pkD (x, y)) = .ok (V (c x y)) ∧ c x y ∈ els) : d_Table_init [G, gR up, cd] = .ok (tabG V G up c) := by
  have g := lookG_ok hs h16 he u
  obtain ⟨ff, f1, f2⟩ := hf
  have m := members_ok u.g.ok u.g.most u.g.prod
  have mm : mthD mt_members_T (gR up) = .ok (fun ds => d_Rounds_members (gR up :: ds)) := rfl
  have l9 := u.mems_le
  let env (ps : List (List Int × List Int)) (s5 s6 : Slot) : Env := [.ow (.parts [.sh, .sh, .flat]) (.obj 2 [G, gR up, dicF pkD V ps fun p => c p.1 p.2]), .sh G, .sh (gR up), .sh cd, .sh (.lst ((mems up).map tuI)), s5, s6]
  have inner : ∀ (ps : List (List Int × List Int)) (x : List Int) (s6 : Slot), OkE up x → (∀ y, (x, y) ∉ ps) → ps.length ≤ 81 → ∃ s6', forD Table_init_l1 ((mems up).map tuI) (env ps (.sh (tuI x)) s6) = .nx (env (ps ++ (mems up).map fun y => (x, y)) (.sh (tuI x)) s6') := fun ps x s6 hx hno hlen => by
    obtain ⟨r', e, s6', rfl⟩ := forD_row (pre0 := mems up) (f := Table_init_l1) tuI (fun done r => ∃ s6, r = env (ps ++ done.map fun y => (x, y)) (.sh (tuI x)) s6) (ds := mems up) (pre := []) (r := env ps (.sh (tuI x)) s6) (fun done y hd r ⟨s6, e⟩ => by
      subst e
      obtain ⟨rest, hr⟩ := hd
      have hy : OkE up y := mem_mems.mp (by rw [← hr]; simp)
      obtain ⟨q1, q2, q3⟩ := h x y hx hy
      have hh := f2 _ q3
      have hl : (ps ++ done.map fun y => (x, y)).length < lim := by
        have := congrArg List.length hr
        simp at this
        simp
        unfold lim
        omega
      have nodup : ((mems up)).Nodup := mems_nodup up
      have hnew : (x, y) ∉ ((ps ++ done.map fun y => (x, y)).map fun p => (p, c p.1 p.2)).map (·.1) := by
        rw [List.map_map]
        intro hm
        obtain ⟨p, hp, e⟩ := List.mem_map.mp hm
        have e' : p = (x, y) := e
        subst e'
        rcases List.mem_append.mp hp with z | z
        · exact hno y z
        · obtain ⟨w, hw, e⟩ := List.mem_map.mp z
          injection e with _ e
          subst e
          rw [← hr, List.nodup_append] at nodup
          have := nodup.1
          rw [List.nodup_append] at this
          exact this.2.2 w hw w (by simp) rfl
      have sk := setK_A' (V := V) keyP ((ps ++ done.map fun y => (x, y)).map fun p => (p, c p.1 p.2)) (x, y) (c x y)
      rw [setA_new _ hnew] at sk
      have kt := keyP.t (x, y)
      refine ⟨env (ps ++ (done ++ [y]).map fun y => (x, y)) (.sh (tuI x)) (.sh (tuI y)), ?_, _, rfl⟩
      have eq : dicF pkD V (ps ++ (done ++ [y]).map fun y => (x, y)) (fun p => c p.1 p.2) = dicA pkD V (((ps ++ done.map fun y => (x, y)).map fun p => (p, c p.1 p.2)) ++ [((x, y), c x y)]) := by
        simp [dicF]
      show Table_init_l1 (tuI y) _ = .nx [.ow (.parts [.sh, .sh, .flat]) (.obj 2 [G, gR up, dicF pkD V (ps ++ (done ++ [y]).map fun y => (x, y)) fun p => c p.1 p.2]), _, _, _, _, _, _]
      rw [eq, ← sk]
      generalize (ps ++ done.map fun y => (x, y)) = L at *
      generalize V (c x y) = vv at *
      simp [Table_init_l1, env, l_two, q1, q2, f1, hh, setFI, Shape.kid, Shape.isFlat, dicF, dicA, kt, hl]) (by simp) ⟨s6, by simp⟩
    exact ⟨s6', by simpa using e⟩
  obtain ⟨r', outer, s5, s6, rfl⟩ := forD_row (pre0 := mems up) (f := Table_init_l2) tuI (fun done r => ∃ s5 s6, r = env (done.flatMap fun x => (mems up).map fun y => (x, y)) s5 s6) (ds := mems up) (pre := []) (r := env [] .un .un) (fun done x hd r ⟨s5, s6, e⟩ => by
    subst e
    obtain ⟨rest, hr⟩ := hd
    have hx : OkE up x := mem_mems.mp (by rw [← hr]; simp)
    have nodup : ((mems up)).Nodup := mems_nodup up
    obtain ⟨s6', q⟩ := inner (done.flatMap fun x => (mems up).map fun y => (x, y)) x s6 hx (fun y hm => by
      obtain ⟨a, ha, hb⟩ := List.mem_flatMap.mp hm
      obtain ⟨b, _, e⟩ := List.mem_map.mp hb
      injection e with e _
      subst e
      rw [← hr, List.nodup_append] at nodup
      have := nodup.1
      rw [List.nodup_append] at this
      exact this.2.2 a ha a (by simp) rfl) (by
      rw [List.length_flatMap]
      simp only [List.length_map, sum_const]
      have h1 : done.length ≤ 9 := by
        have := congrArg List.length hr
        simp at this
        omega
      calc done.length * (mems up).length ≤ 9 * 9 := Nat.mul_le_mul h1 l9
        _ = 81 := rfl)
    refine ⟨_, ?_, .sh (tuI x), s6', rfl⟩
    rw [List.flatMap_append]
    simp only [List.flatMap_cons, List.flatMap_nil, List.append_nil]
    rw [← q]
    simp [Table_init_l2, env]) (by simp) ⟨.un, .un, rfl⟩
  simp only [List.nil_append] at outer
  have st : startI N_Table_init.length 2 [G, gR up, cd] = [.ow .flat (.obj 2 []), .sh G, .sh (gR up), .sh cd, .un, .un, .un] := rfl
  have e1 : e_Table_init (startI N_Table_init.length 2 [G, gR up, cd]) = .nx (env (prs up) s5 s6) := by
    rw [st]
    have f0 : setF 0 2 "lower" .sh G [.ow .flat (.obj 2 []), .sh G, .sh (gR up), .sh cd, .un, .un, .un] = .nx [.ow .flat (.obj 2 [G]), .sh G, .sh (gR up), .sh cd, .un, .un, .un] := by kernel_rfl
    have f1 : setF 0 2 "upper" .sh (gR up) [.ow .flat (.obj 2 [G]), .sh G, .sh (gR up), .sh cd, .un, .un, .un] = .nx [.ow .flat (.obj 2 [G, gR up]), .sh G, .sh (gR up), .sh cd, .un, .un, .un] := by kernel_rfl
    have f2 : setF 0 2 "kept" .flat (.dic [] []) [.ow .flat (.obj 2 [G, gR up]), .sh G, .sh (gR up), .sh cd, .un, .un, .un] = .nx [.ow (.parts [.sh, .sh, .flat]) (.obj 2 [G, gR up, .dic [] []]), .sh G, .sh (gR up), .sh cd, .un, .un, .un] := by kernel_rfl
    have o2 : forD Table_init_l2 ((mems up).map tuI) [.ow (.parts [.sh, .sh, .flat]) (.obj 2 [G, gR up, .dic [] []]), .sh G, .sh (gR up), .sh cd, .sh (.lst ((mems up).map tuI)), .un, .un] = .nx (env (prs up) s5 s6) := outer
    simp only [e_Table_init, getS_succ, getS0, ok_bind, g, lift_ok, nx_seq, f0, f1, f2, mm, m, List.set_cons_succ, List.set_cons_zero, itemsD_lst]
    simp [o2, m]
  exact runI_nx rfl e1
theorem carryG_ok {α : Type} {V : α → D} {G : D} {up : List Int} {c : List Int → List Int → α} {x y : List Int} (hx : OkE up x) (hy : OkE up y) : d_Table_carry [tabG V G up c, tuI x, tuI y] = .ok (V (c x y)) := by
  refine runD_rt rfl ?_
  simp only [startD, N_Table_carry, List.length_cons, List.length_nil, List.map_cons, List.map_nil, Nat.reduceAdd, Nat.reduceSub, Nat.zero_add, List.replicate, List.cons_append, List.nil_append]
  have l : lookA ((prs up).map fun p => (p, c p.1 p.2)) (x, y) = some (c x y) := lookA_map (fun p : List Int × List Int => c p.1 p.2) (mem_prs.mpr ⟨mem_mems.mpr hx, mem_mems.mpr hy⟩)
  have i := ixD_A (V := V) keyP ((prs up).map fun p => (p, c p.1 p.2)) (x, y) l
  have l2 := l_two
  have f1 := fldG_upper G (gR up) [dicF pkD V (prs up) fun p => c p.1 p.2]
  have f2 := fldG_kept G (gR up) (dicF pkD V (prs up) fun p => c p.1 p.2)
  have hx := has_ok hx
  have hy := has_ok hy
  unfold tabG
  have i : ixD (dicF pkD V (prs up) fun p => c p.1 p.2) (.tup [tuI x, tuI y]) = .ok (V (c x y)) := i
  generalize dicF pkD V (prs up) (fun p => c p.1 p.2) = C at *
  simp [e_Table_carry, f1, f2, mthD, mt_has, mt_has_T, hx, hy, i, l2]
def ownG {α : Type} (put : α → α → α) (back : α → α) (up : List Int) (hf : List Int → α) (x y : List Int) : α := put (put (hf x) (hf y)) (back (hf (putV up x y)))
theorem eqQ_tuG (a b : List Int) : eqQ (tuI a) (tuI b) = decide (a = b) := by rw [eqQ, eqQs_ints]
theorem nodup_grid {α β : Type} : ∀ {xs : List α} {ys : List β}, xs.Nodup → ys.Nodup → (xs.flatMap fun a => ys.map fun b => (a, b)).Nodup
  | [], _, _, _ => List.nodup_nil
  | x :: xs, ys, h1, h2 => by
    rw [List.nodup_cons] at h1
    rw [List.flatMap_cons, List.nodup_append]
    refine ⟨?_, nodup_grid h1.2 h2, fun p hp q hq e => ?_⟩
    · rw [List.nodup_iff_pairwise_ne, List.pairwise_map]
      exact (List.nodup_iff_pairwise_ne.mp h2).imp fun hne e => hne (congrArg (·.2) e)
    · subst e
      obtain ⟨b, _, rfl⟩ := List.mem_map.mp hp
      obtain ⟨a, ha, hb⟩ := List.mem_flatMap.mp hq
      obtain ⟨b', _, e⟩ := List.mem_map.mp hb
      have : a = x := congrArg (·.1) e
      exact h1.1 (this ▸ ha)
theorem lcD_gfilter {α : Type} {g : D → Env → Res Env} {t : Env → Res Bool} {f : Env → Res D} {r : Env} (A F : α → D) (b : α → Bool) : ∀ {xs : List α}, (∀ a ∈ xs, ∃ r1, g (A a) r = .ok r1 ∧ t r1 = .ok (b a) ∧ (b a = true → f r1 = .ok (F a))) → lcD g t f r (xs.map A) = .ok ((xs.filter b).map F)
  | [], _ => rfl
  | a :: xs, h => by
    obtain ⟨r1, h1, h2, h3⟩ := h a List.mem_cons_self
    rw [List.map_cons, lcD, h1]
    simp only [nE_ok, ok_bind, h2, lcD_gfilter A F b fun d hd => h d (List.mem_cons_of_mem _ hd)]
    cases hb : b a with
    | false => simp [hb]
    | true => simp [hb, h3 hb]
theorem first_only {α : Type} {V : α → D} {xs : List α} {b : α → Bool} {z : α} (hz : z ∈ xs) (bz : b z = true) (u : ∀ a ∈ xs, b a = true → a = z) : ixD (.lst ((xs.filter b).map V)) (.int 0) = .ok (V z) := by
  cases h : xs.filter b with
  | nil =>
    have : z ∈ xs.filter b := List.mem_filter.mpr ⟨hz, bz⟩
    rw [h] at this
    cases this
  | cons a l =>
    have : a ∈ xs.filter b := by rw [h]; exact List.mem_cons_self
    obtain ⟨h1, h2⟩ := List.mem_filter.mp this
    rw [u a h1 h2, List.map_cons]
    have z0 : (0 : Int) < ((V z :: l.map V).length : Nat) := by rw [List.length_cons]; omega
    rw [ixD_lst]
    unfold atI ixN
    rw [if_pos (by omega), if_pos z0]
    rfl
/-- a dict filled by a walk, its values of any make -/
theorem fillG {κ β : Type} [DecidableEq κ] {N : Nat} {α : Type} {Q : κ → β → Prop} {f : D → Env → Oc} (A : α → D) (kx : α → κ) (P : List (κ × β) → Env → Prop) : ∀ {X : List α} {L : List (κ × β)} {r : Env}, L.length + X.length ≤ N → (X.map kx).Nodup → (∀ a ∈ X, kx a ∉ L.map (·.1)) →
    (∀ L, L.length < N → ∀ a ∈ X, kx a ∉ L.map (·.1) → ∀ r, P L r → ∃ v r', Q (kx a) v ∧ f (A a) r = .nx r' ∧ P (setA L (kx a) v) r') → P L r →
    ∃ L' r', forD f (X.map A) r = .nx r' ∧ P (L ++ L') r' ∧ L'.map (·.1) = X.map kx ∧ ∀ p ∈ L', Q p.1 p.2
  | [], L, r, _, _, _, _, hp => ⟨[], r, rfl, by simpa using hp, rfl, fun _ h => nomatch h⟩
  | a :: X, L, r, hl, hn, hf, h, hp => by
    rw [List.length_cons] at hl
    rw [List.map_cons, List.nodup_cons] at hn
    obtain ⟨v, r1, hv, e, p1⟩ := h L (by omega) a List.mem_cons_self (hf a List.mem_cons_self) r hp
    rw [setA_new v (hf a List.mem_cons_self)] at p1
    obtain ⟨L', r2, e2, p2, k2, v2⟩ := fillG (Q := Q) A kx P (L := L ++ [(kx a, v)]) (r := r1) (by simp; omega) hn.2 (fun z hz hm => by
      rw [List.map_append, List.mem_append] at hm
      rcases hm with m | m
      · exact hf z (List.mem_cons_of_mem _ hz) m
      · rw [List.map_cons, List.map_nil, List.mem_singleton] at m
        have m : kx z = kx a := m
        exact hn.1 (m ▸ List.mem_map.mpr ⟨z, hz, rfl⟩)) (fun L hL z hz => h L hL z (List.mem_cons_of_mem _ hz)) p1
    refine ⟨(kx a, v) :: L', r2, ?_, by simpa using p2, by simp [k2], fun p hq => ?_⟩
    · rw [List.map_cons, forD_cons, e]
      exact e2
    · rcases List.mem_cons.mp hq with z | z
      · subst z; exact hv
      · exact v2 p z
def backsD {α : Type} (V : α → D) (els : List α) (back : α → α) : D := dicF V V els back
theorem backs_get {α : Type} [DecidableEq α] {V : α → D} {Q : α → NestedKey} {els : List α} {back : α → α} (K : KeyE V Q) {a : α} (ha : a ∈ els) : ixD (backsD V els back) (V a) = .ok (V (back a)) :=
  ixD_A (V := V) K (els.map fun p => (p, back p)) a (lookA_map back ha)
def cG {α : Type} (V : α → D) (up : List Int) (c : List Int → List Int → α) : D := dicF pkD V (prs up) fun p => c p.1 p.2
theorem getG {α : Type} {V : α → D} {up : List Int} (c : List Int → List Int → α) {x y : List Int} (hx : OkE up x) (hy : OkE up y) : ixD (cG V up c) (.tup [tuI x, tuI y]) = .ok (V (c x y)) := ixD_A (V := V) keyP ((prs up).map fun p => (p, c p.1 p.2)) (x, y) (lookA_map (fun p : List Int × List Int => c p.1 p.2) (mem_prs.mpr ⟨mem_mems.mpr hx, mem_mems.mpr hy⟩))
def orT : Option (List D) → D
  | some l => .tup l
  | none => .non
def s2G {α : Type} [DecidableEq α] (c : List Int → List Int → α) (x y : List Int) : Option (List D) := if c x y = c y x then none else some [tuI x, tuI y]
def s3G {α : Type} [DecidableEq α] (put : α → α → α) (up : List Int) (c : List Int → List Int → α) (x y z : List Int) : Option (List D) := if put (c x y) (c (putV up x y) z) = put (c y z) (c x (putV up y z)) then none else some [tuI x, tuI y, tuI z]
def break2G {α : Type} [DecidableEq α] (up : List Int) (c : List Int → List Int → α) : Option (List D) := (mems up).findSome? fun x => (mems up).findSome? fun y => s2G c x y
def break3G {α : Type} [DecidableEq α] (put : α → α → α) (up : List Int) (c : List Int → List Int → α) : Option (List D) := (mems up).findSome? fun x => (mems up).findSome? fun y => (mems up).findSome? fun z => s3G put up c x y z
theorem some_tup {α : Type} (f : α → Option (List D)) : ∀ l : List α, (l.findSome? f).map D.tup = l.findSome? fun a => (f a).map D.tup
  | [] => rfl
  | a :: l => by
    rw [List.findSome?_cons, List.findSome?_cons]
    cases f a with
    | some v => rfl
    | none => exact some_tup f l
theorem orT_map (o : Option (List D)) : (∀ v, o.map D.tup = some v → orT o = v) ∧ (o.map D.tup = none → orT o = .non) := by
  cases o with
  | none => exact ⟨fun v h => (nomatch h), fun _ => rfl⟩
  | some l => exact ⟨fun v h => (by cases h; rfl), fun h => nomatch h⟩
theorem break3G_ok {α : Type} [DecidableEq α] {V : α → D} {els : List α} {put : α → α → α} {back : α → α} {zero : α} {G : D} {up : List Int} {c : List Int → List Int → α} (L : LowG V els put back zero) (u : OkU up) (fa : AddF V els put G) (hc : OkCG els up c) : d_break_of_three [tabG V G up c] = .ok (orT (break3G put up c)) := by
  have m := members_ok u.g.ok u.g.most u.g.prod
  have mm : mthD mt_members_T (gR up) = .ok (fun ds => d_Rounds_members (gR up :: ds)) := rfl
  have ma : mthD mt_added_T (gR up) = .ok (fun ds => d_Group_added (gR up :: ds)) := rfl
  have mc : mthD mt_carry (tabG V G up c) = .ok (fun ds => d_Table_carry (tabG V G up c :: ds)) := rfl
  have l3 : 3 ≤ lim := by decide
  have fl : fldD (plOf [2] "lower") (tabG V G up c) = .ok G := fldG_lower G (gR up) [dicF pkD V (prs up) fun p => c p.1 p.2]
  have fu : fldD (plOf [2] "upper") (tabG V G up c) = .ok (gR up) := fldG_upper G (gR up) [dicF pkD V (prs up) fun p => c p.1 p.2]
  have ca := fun {x y : List Int} (hx : OkE up x) (hy : OkE up y) => carryG_ok (V := V) (G := G) (c := c) hx hy
  obtain ⟨f, f1, f2⟩ := fa
  generalize tabG V G up c = T at *
  have it : itemsD (.lst ((mems up).map tuI)) = .ok ((mems up).map tuI) := rfl
  let E (s4 s5 s6 s7 s8 : Slot) : Env := [.sh T, .sh G, .sh (gR up), .sh (.lst ((mems up).map tuI)), s4, s5, s6, s7, s8]
  have in1 := fun (x y : List Int) (hx : x ∈ mems up) (hy : y ∈ mems up) (s6 s7 s8 : Slot) => forD_find (f := break_of_three_l1) tuI (fun r => ∃ s6 s7 s8, r = E (.sh (tuI x)) (.sh (tuI y)) s6 s7 s8) (fun z => (s3G put up c x y z).map D.tup) (ds := mems up) (r := E (.sh (tuI x)) (.sh (tuI y)) s6 s7 s8) (fun z hz r ⟨s6, s7, s8, e⟩ => by
      subst e
      have hx := mem_mems.mp hx
      have hy := mem_mems.mp hy
      have hz := mem_mems.mp hz
      have pxy := put_el u.g.ok hx.len hy.len
      have pyz := put_el u.g.ok hy.len hz.len
      have q1 := ca hx hy
      have q2 := ca pxy hz
      have q3 := ca hy hz
      have q4 := ca hx pyz
      have a1 := added_ok u.g.ok hx hy
      have a2 := added_ok u.g.ok hy hz
      have a3 := f2 _ (hc x y hx hy) _ (hc _ z pxy hz)
      have a4 := f2 _ (hc y z hy hz) _ (hc x _ hx pyz)
      have ne := L.neV (put (c x y) (c (putV up x y) z)) (put (c y z) (c x (putV up y z)))
      unfold s3G
      by_cases e : put (c x y) (c (putV up x y) z) = put (c y z) (c x (putV up y z))
      · rw [if_pos e]
        rw [decide_eq_true e] at ne
        refine ⟨fun v h => (by cases h), fun _ => ⟨E (.sh (tuI x)) (.sh (tuI y)) (.sh (tuI z)) (.sh (V (put (c x y) (c (putV up x y) z)))) (.sh (V (put (c y z) (c x (putV up y z))))), ?_, _, _, _, rfl⟩⟩
        simp only [E]
        generalize V (put (c x y) (c (putV up x y) z)) = v1 at *
        generalize V (put (c y z) (c x (putV up y z))) = v2 at *
        generalize V (c x y) = v3 at *
        generalize V (c (putV up x y) z) = v4 at *
        generalize V (c y z) = v5 at *
        generalize V (c x (putV up y z)) = v6 at *
        generalize D.lst ((mems up).map tuI) = ML at *
        generalize gR up = GU at *
        generalize tuI (putV up x y) = XY at *
        generalize tuI (putV up y z) = YZ at *
        generalize tuI x = X at *
        generalize tuI y = Y at *
        generalize tuI z = Z at *
        simp [break_of_three_l1, mc, ma, f1, q1, q2, q3, q4, a1, a2, a3, a4, ne]
      · rw [if_neg e]
        rw [decide_eq_false e] at ne
        refine ⟨fun v h => ?_, fun h => (by cases h)⟩
        cases h
        simp only [E]
        generalize V (put (c x y) (c (putV up x y) z)) = v1 at *
        generalize V (put (c y z) (c x (putV up y z))) = v2 at *
        generalize V (c x y) = v3 at *
        generalize V (c (putV up x y) z) = v4 at *
        generalize V (c y z) = v5 at *
        generalize V (c x (putV up y z)) = v6 at *
        generalize D.lst ((mems up).map tuI) = ML at *
        generalize gR up = GU at *
        generalize tuI (putV up x y) = XY at *
        generalize tuI (putV up y z) = YZ at *
        generalize tuI x = X at *
        generalize tuI y = Y at *
        generalize tuI z = Z at *
        simp [break_of_three_l1, mc, ma, f1, q1, q2, q3, q4, a1, a2, a3, a4, ne, l3]) ⟨_, _, _, rfl⟩
  have in2 := fun (x : List Int) (hx : x ∈ mems up) (s5 s6 s7 s8 : Slot) => forD_find (f := break_of_three_l2) tuI (fun r => ∃ s5 s6 s7 s8, r = E (.sh (tuI x)) s5 s6 s7 s8) (fun y => ((mems up).findSome? fun z => s3G put up c x y z).map D.tup) (ds := mems up) (r := E (.sh (tuI x)) s5 s6 s7 s8) (fun y hy r ⟨s5, s6, s7, s8, e⟩ => by
      subst e
      obtain ⟨h1, h2⟩ := in1 x y hx hy s6 s7 s8
      rw [some_tup]
      simp only [E] at h1 h2 ⊢
      generalize hML : D.lst ((mems up).map tuI) = ML at *
      generalize (mems up).map tuI = MM at *
      generalize gR up = GU at *
      generalize tuI x = X at *
      generalize tuI y = Y at *
      refine ⟨fun v h => ?_, fun h => ?_⟩
      · have := h1 v h
        simp [break_of_three_l2, it, this]
      · obtain ⟨r', e, s6', s7', s8', rfl⟩ := h2 h
        exact ⟨[.sh T, .sh G, .sh GU, .sh ML, .sh X, .sh Y, s6', s7', s8'], by simp [break_of_three_l2, it, e], _, _, _, _, rfl⟩) ⟨_, _, _, _, rfl⟩
  have in3 := forD_find (f := break_of_three_l3) tuI (fun r => ∃ s4 s5 s6 s7 s8, r = E s4 s5 s6 s7 s8) (fun x => ((mems up).findSome? fun y => (mems up).findSome? fun z => s3G put up c x y z).map D.tup) (ds := mems up) (r := E .un .un .un .un .un) (fun x hx r ⟨s4, s5, s6, s7, s8, e⟩ => by
      subst e
      obtain ⟨h1, h2⟩ := in2 x hx s5 s6 s7 s8
      rw [some_tup]
      simp only [E] at h1 h2 ⊢
      generalize hML : D.lst ((mems up).map tuI) = ML at *
      generalize (mems up).map tuI = MM at *
      generalize gR up = GU at *
      generalize tuI x = X at *
      refine ⟨fun v h => ?_, fun h => ?_⟩
      · have := h1 v h
        simp [break_of_three_l3, it, this]
      · obtain ⟨r', e, s5', s6', s7', s8', rfl⟩ := h2 h
        exact ⟨[.sh T, .sh G, .sh GU, .sh ML, .sh X, s5', s6', s7', s8'], by simp [break_of_three_l3, it, e], _, _, _, _, _, rfl⟩) ⟨_, _, _, _, _, rfl⟩
  refine runD_rt rfl ?_
  simp only [startD, N_break_of_three, List.length_cons, List.length_nil, List.map_cons, List.map_nil, Nat.reduceAdd, Nat.reduceSub, Nat.zero_add, List.replicate, List.cons_append, List.nil_append]
  rw [← some_tup] at in3
  simp only [E] at in3
  have in3 : (∀ v, (break3G put up c).map D.tup = some v → _) ∧ ((break3G put up c).map D.tup = none → _) := in3
  obtain ⟨o1, o2⟩ := orT_map (break3G put up c)
  cases hb : (break3G put up c).map D.tup with
  | some v =>
    have := in3.1 v hb
    rw [o1 v hb]
    generalize D.lst ((mems up).map tuI) = ML at *
    generalize (mems up).map tuI = MM at *
    generalize gR up = GU at *
    simp [e_break_of_three, fl, fu, mm, m, it, this]
  | none =>
    obtain ⟨r', e, _⟩ := in3.2 hb
    rw [o2 hb]
    generalize D.lst ((mems up).map tuI) = ML at *
    generalize (mems up).map tuI = MM at *
    generalize gR up = GU at *
    simp [e_break_of_three, fl, fu, mm, m, it, e]
section
variable {α : Type} [DecidableEq α] {V : α → D} {els : List α} {put : α → α → α} {back : α → α} {zero : α}
theorem LowG.ac4 (L : LowG V els put back zero) {a b c d : α} (ha : a ∈ els) (hb : b ∈ els) (hc : c ∈ els) (hd : d ∈ els) : put (put a b) (put c d) = put (put a c) (put b d) := by
  rw [L.assoc _ ha _ hb _ (L.putE _ hc _ hd), ← L.assoc _ hb _ hc _ hd, L.comm _ hb _ hc, L.assoc _ hc _ hb _ hd, ← L.assoc _ ha _ hc _ (L.putE _ hb _ hd)]
theorem LowG.zp (L : LowG V els put back zero) {a : α} (ha : a ∈ els) : put zero a = a := by rw [L.comm _ L.zeroE _ ha, L.pz a ha]
theorem LowG.bp (L : LowG V els put back zero) {a : α} (ha : a ∈ els) : put (back a) a = zero := by rw [L.comm _ (L.backE a ha) _ ha, L.pb a ha]
theorem LowG.mid (L : LowG V els put back zero) {p m q r : α} (hp : p ∈ els) (hm : m ∈ els) (hq : q ∈ els) (hr : r ∈ els) : put (put p (back m)) (put (put m q) r) = put (put p q) r := by
  have bm := L.backE m hm
  rw [L.assoc _ hp _ bm _ (L.putE _ (L.putE _ hm _ hq) _ hr), ← L.assoc _ bm _ (L.putE _ hm _ hq) _ hr, ← L.assoc _ bm _ hm _ hq, L.bp hm, L.zp hq, ← L.assoc _ hp _ hq _ hr]
theorem own_three (L : LowG V els put back zero) {up x y z : List Int} {h : List Int → α} (u : OkU up) (hh : ∀ x, OkE up x → h x ∈ els) (hx : OkE up x) (hy : OkE up y) (hz : OkE up z) :
    put (ownG put back up h x y) (ownG put back up h (putV up x y) z) = put (ownG put back up h y z) (ownG put back up h x (putV up y z)) := by
  have pxy := put_el u.g.ok hx.len hy.len
  have pyz := put_el u.g.ok hy.len hz.len
  have e := putV_assoc hx.len hy.len hz.len
  have pz := put_el u.g.ok hx.len pyz.len
  unfold ownG
  rw [e, L.mid (L.putE _ (hh x hx) _ (hh y hy)) (hh _ pxy) (hh z hz) (L.backE _ (hh _ pz)), L.comm _ (hh x hx) _ (hh _ pyz), L.mid (L.putE _ (hh y hy) _ (hh z hz)) (hh _ pyz) (hh x hx) (L.backE _ (hh _ pz)), L.comm _ (L.putE _ (hh y hy) _ (hh z hz)) _ (hh x hx), L.assoc _ (hh x hx) _ (hh y hy) _ (hh z hz)]
theorem own_in (L : LowG V els put back zero) {up x y : List Int} {h : List Int → α} (u : OkU up) (hh : ∀ x, OkE up x → h x ∈ els) (hx : OkE up x) (hy : OkE up y) : ownG put back up h x y ∈ els :=
  L.putE _ (L.putE _ (hh x hx) _ (hh y hy)) _ (L.backE _ (hh _ (put_el u.g.ok hx.len hy.len)))
theorem own_sym (L : LowG V els put back zero) {up x y : List Int} {h : List Int → α} (hh : ∀ x, OkE up x → h x ∈ els) (hx : OkE up x) (hy : OkE up y) : ownG put back up h x y = ownG put back up h y x := by
  unfold ownG
  rw [L.comm _ (hh x hx) _ (hh y hy), putV_comm hx.len hy.len]
end
theorem setA_twice {α β : Type} [DecidableEq α] (l : List (α × β)) (a : α) (b c : β) : setA (setA l a b) a c = setA l a c := by
  unfold setA
  by_cases h : hasA l a = true
  · have h2 : hasA (l.map fun p => if p.1 = a then (a, b) else p) a = true := by
      unfold hasA at h ⊢
      obtain ⟨p, hp, e⟩ := List.any_eq_true.mp h
      have e := of_decide_eq_true e
      exact List.any_eq_true.mpr ⟨(a, b), List.mem_map.mpr ⟨p, hp, by rw [if_pos e]⟩, decide_eq_true rfl⟩
    have h3 : hasA (l.map fun p => if p.1 = a then (p.1, b) else p) a = true := by
      unfold hasA at h ⊢
      obtain ⟨p, hp, e⟩ := List.any_eq_true.mp h
      have e := of_decide_eq_true e
      exact List.any_eq_true.mpr ⟨(p.1, b), List.mem_map.mpr ⟨p, hp, by rw [if_pos e]⟩, decide_eq_true e⟩
    simp only [h, if_true, h2, h3, List.map_map]
    refine List.map_congr_left fun p _ => ?_
    simp only [Function.comp]
    by_cases e : p.1 = a <;> simp [e]
  · have h2 : hasA (l ++ [(a, b)]) a = true := by
      unfold hasA
      exact List.any_eq_true.mpr ⟨(a, b), by simp, decide_eq_true rfl⟩
    simp only [h, if_false, h2, if_true, List.map_append, Bool.false_eq_true]
    congr 1
    · have : l.map (fun p => if p.1 = a then (p.1, c) else p) = l.map id := List.map_congr_left fun p hp => by
        have hn : ¬ p.1 = a := fun e => h (List.any_eq_true.mpr ⟨p, hp, decide_eq_true e⟩)
        simp [hn]
      simpa using this
    · simp
/-- a dict of all pairs, row by row -/
theorem fill2G {β : Type} {N : Nat} {up : List Int} {Q : List Int × List Int → β → Prop} {outer inner : D → Env → Oc} (P : List ((List Int × List Int) × β) → Env → Prop) (P' : List ((List Int × List Int) × β) → List Int → Env → Prop) : ∀ {X : List (List Int)} {L : List ((List Int × List Int) × β)} {r : Env}, L.length + X.length * (mems up).length ≤ N → X.Nodup → (∀ a ∈ X, ∀ y ∈ mems up, (a, y) ∉ L.map (·.1)) →
    (∀ L, L.length < N → ∀ a ∈ X, ∀ y ∈ mems up, (a, y) ∉ L.map (·.1) → ∀ r, P' L a r → ∃ v r', Q (a, y) v ∧ inner (tuI y) r = .nx r' ∧ P' (setA L (a, y) v) a r') →
    (∀ L, ∀ a ∈ X, ∀ r, P L r → ∃ r1, P' L a r1 ∧ ∀ L' r2, forD inner ((mems up).map tuI) r1 = .nx r2 → P' L' a r2 → ∃ r3, outer (tuI a) r = .nx r3 ∧ P L' r3) → P L r →
    ∃ L' r', forD outer (X.map tuI) r = .nx r' ∧ P (L ++ L') r' ∧ L'.map (·.1) = X.flatMap (fun a => (mems up).map fun y => (a, y)) ∧ ∀ p ∈ L', Q p.1 p.2
  | [], L, r, _, _, _, _, _, hp => ⟨[], r, rfl, by simpa using hp, rfl, fun _ h => nomatch h⟩
  | a :: X, L, r, hl, hn, hf, hi, ho, hp => by
    rw [List.length_cons, Nat.succ_mul] at hl
    rw [List.nodup_cons] at hn
    obtain ⟨r1, p1, q⟩ := ho L a List.mem_cons_self r hp
    obtain ⟨L1, r2, e1, p2, k1, v1⟩ := fillG (Q := Q) (f := inner) (N := N) tuI (fun y : List Int => (a, y)) (fun L r => P' L a r) (X := mems up) (L := L) (r := r1) (by omega) (by
        rw [List.nodup_iff_pairwise_ne, List.pairwise_map]
        exact (List.nodup_iff_pairwise_ne.mp (mems_nodup up)).imp fun hne e => hne (congrArg (·.2) e)) (hf a List.mem_cons_self) (fun L hL y hy hm r hr => hi L hL a List.mem_cons_self y hy hm r hr) p1
    obtain ⟨r3, e3, p3⟩ := q _ r2 e1 p2
    obtain ⟨L2, r4, e4, p4, k2, v2⟩ := fill2G P P' (X := X) (L := L ++ L1) (r := r3) (by have := congrArg List.length k1; rw [List.length_map, List.length_map] at this; rw [List.length_append]; omega) hn.2 (fun b hb y hy hm => by
      rw [List.map_append, List.mem_append] at hm
      rcases hm with m | m
      · exact hf b (List.mem_cons_of_mem _ hb) y hy m
      · rw [k1] at m
        obtain ⟨z, _, e⟩ := List.mem_map.mp m
        injection e with e _
        exact hn.1 (e ▸ hb)) (fun L hL b hb => hi L hL b (List.mem_cons_of_mem _ hb)) (fun L b hb => ho L b (List.mem_cons_of_mem _ hb)) p3
    refine ⟨L1 ++ L2, r4, ?_, by simpa using p4, by simp [k1, k2], fun p hq => ?_⟩
    · rw [List.map_cons, forD_cons, e3]
      exact e4
    · rcases List.mem_append.mp hq with z | z
      · exact v1 p z
      · exact v2 p z
theorem gridFill {β : Type} {up : List Int} {Q : List Int × List Int → β → Prop} {outer inner : D → Env → Oc} (P : List ((List Int × List Int) × β) → Env → Prop) (P' : List ((List Int × List Int) × β) → List Int → Env → Prop) {r : Env} (u : OkU up) (z : β)
    (hi : ∀ L, L.length < 81 → ∀ x y, OkE up x → OkE up y → ∀ r, P' L x r → ∃ v r', Q (x, y) v ∧ inner (tuI y) r = .nx r' ∧ P' (setA L (x, y) v) x r')
    (ho : ∀ L x, OkE up x → ∀ r, P L r → ∃ r1, P' L x r1 ∧ ∀ L' r2, forD inner ((mems up).map tuI) r1 = .nx r2 → P' L' x r2 → ∃ r3, outer (tuI x) r = .nx r3 ∧ P L' r3) (h0 : P [] r) :
    ∃ (c : List Int → List Int → β) (r' : Env), (∀ x y, OkE up x → OkE up y → Q (x, y) (c x y)) ∧ forD outer ((mems up).map tuI) r = .nx r' ∧ P ((prs up).map fun p => (p, c p.1 p.2)) r' := by
  have l9 := u.mems_le
  obtain ⟨M, r', lp, pp, hk, hv⟩ := fill2G (N := 81) (Q := Q) (up := up) (outer := outer) (inner := inner) P P' (X := mems up) (L := []) (r := r) (by have := Nat.mul_le_mul l9 l9; simpa using this) (mems_nodup up) (by simp) (fun L hL a ha y hy _ r hr => hi L hL a y (mem_mems.mp ha) (mem_mems.mp hy) r hr) (fun L a ha r hr => ho L a (mem_mems.mp ha) r hr) h0
  have hk : M.map (·.1) = prs up := hk
  have gn : (M.map (·.1)).Nodup := by rw [hk]; exact prs_nodup up
  refine ⟨fun x y => (lookA M (x, y)).getD z, r', fun x y hx hy => ?_, lp, ?_⟩
  · have hm : (x, y) ∈ M.map (·.1) := by rw [hk]; exact mem_prs.mpr ⟨mem_mems.mpr hx, mem_mems.mpr hy⟩
    obtain ⟨p, hp, e⟩ := List.mem_map.mp hm
    have := lookA_mem gn (show (p.1, p.2) ∈ M from hp)
    rw [e] at this
    show Q (x, y) ((lookA M (x, y)).getD z)
    rw [this]
    have q := hv p hp
    rw [e] at q
    exact q
  · have e := byRule (L := M) (g := fun p : List Int × List Int => (lookA M (p.1, p.2)).getD z) (fun p hp => by
      have := lookA_mem gn (show (p.1, p.2) ∈ M from hp)
      show p.2 = (lookA M p.1).getD z
      rw [this]
      rfl)
    rw [show M.map (fun p => p.1) = prs up from hk] at e
    rw [List.nil_append] at pp
    have e : M = (prs up).map fun p => (p, (lookA M (p.1, p.2)).getD z) := e
    rw [← e]
    exact pp
section
variable {α : Type} [DecidableEq α] {V : α → D} {Q : α → NestedKey} {els : List α} {put : α → α → α} {back : α → α} {zero : α}
/-- the tower of a table over any lower group -/
def towG (V : α → D) (G : D) (up : List Int) (c : List Int → List Int → α) : D := .obj 1 [tabG V G up c, V (c (zeroV up) (zeroV up))]
theorem towG_ok {G : D} {up : List Int} {c : List Int → List Int → α} (L : LowG V els put back zero) (u : OkU up) (fa : AddF V els put G) (hc : OkCG els up c) (hb : break3G put up c = none) : d_Tower_init [tabG V G up c] = .ok (towG V G up c) := by
  have b := break3G_ok L u fa hc
  rw [hb] at b
  have z := nought_ok u.g.ok
  have ze := zero_el u.g.ok
  have cr := carryG_ok (V := V) (G := G) (c := c) ze ze
  have fu : fldD (plOf [2] "upper") (tabG V G up c) = .ok (gR up) := fldG_upper G (gR up) [dicF pkD V (prs up) fun p => c p.1 p.2]
  have b : d_break_of_three [tabG V G up c] = .ok .non := b
  have e1 : e_Tower_init (startI N_Tower_init.length 1 [tabG V G up c]) = .nx [.ow .flat (towG V G up c), .sh (tabG V G up c), .sh .non] := by
    have st : startI N_Tower_init.length 1 [tabG V G up c] = [.ow .flat (.obj 1 []), .sh (tabG V G up c), .un] := rfl
    rw [st]
    have f0 : setF 0 1 "table" .sh (tabG V G up c) [.ow .flat (.obj 1 []), .sh (tabG V G up c), .sh .non] = .nx [.ow .flat (.obj 1 [tabG V G up c]), .sh (tabG V G up c), .sh .non] := by kernel_rfl
    have f1 : setF 0 1 "ground" .sh (V (c (zeroV up) (zeroV up))) [.ow .flat (.obj 1 [tabG V G up c]), .sh (tabG V G up c), .sh .non] = .nx [.ow .flat (towG V G up c), .sh (tabG V G up c), .sh .non] := by kernel_rfl
    have nn : notN .non .non = .ok (.bl false) := by kernel_rfl
    have mcs : mthD mt_carry (tabG V G up c) = .ok (fun ds => d_Table_carry (tabG V G up c :: ds)) := rfl
    have mn : mthD mt_nought (gR up) = .ok (fun ds => d_Rounds_nought (gR up :: ds)) := rfl
    generalize towG V G up c = TW at *
    generalize V (c (zeroV up) (zeroV up)) = g at *
    generalize tabG V G up c = T at *
    generalize gR up = GU at *
    generalize tuI (zeroV up) = Z at *
    simp [e_Tower_init, b, nn, f0, f1, fu, mcs, mn, z, cr]
  exact runI_nx rfl e1
/-- all pairs of a lower and an upper element -/
def allG (els : List α) (up : List Int) : List (α × List Int) := els.flatMap fun a => (mems up).map fun x => (a, x)
def paG (V : α → D) (p : α × List Int) : D := .tup [V p.1, tuI p.2]
theorem mem_allG {up : List Int} {a : α} {x : List Int} : (a, x) ∈ allG els up ↔ a ∈ els ∧ OkE up x := by
  unfold allG
  rw [List.mem_flatMap]
  constructor
  · rintro ⟨b, hb, h⟩
    obtain ⟨y, hy, e⟩ := List.mem_map.mp h
    cases e
    exact ⟨hb, mem_mems.mp hy⟩
  · rintro ⟨ha, hx⟩
    exact ⟨a, ha, List.mem_map.mpr ⟨x, mem_mems.mpr hx, rfl⟩⟩
end
/-- a finite group of any make, and how its elements lie -/
structure GrpG {α : Type} [DecidableEq α] (h : Nat) (V : α → D) (els : List α) (put : α → α → α) (back : α → α) (zero : α) : Prop where
  nd : els.Nodup
  len : els.length ≤ 144
  putE : ∀ a ∈ els, ∀ b ∈ els, put a b ∈ els
  backE : ∀ a ∈ els, back a ∈ els
  zeroE : zero ∈ els
  assoc : ∀ a ∈ els, ∀ b ∈ els, ∀ c ∈ els, put (put a b) c = put a (put b c)
  pz : ∀ a ∈ els, put a zero = a
  zp : ∀ a ∈ els, put zero a = a
  pb : ∀ a ∈ els, put a (back a) = zero
  bp : ∀ a ∈ els, put (back a) a = zero
  okV : ∀ n a, h ≤ n → okQ n (V a) = true
  eqq : ∀ a b, eqQ (V a) (V b) = decide (a = b)
/-- so many times -/
def powG {α : Type} (put : α → α → α) (zero : α) : Nat → α → α
  | 0, _ => zero
  | n + 1, x => put (powG put zero n x) x
section
variable {α : Type} [DecidableEq α] {h : Nat} {V : α → D} {els : List α} {put : α → α → α} {back : α → α} {zero : α}
theorem GrpG.okV64 (L : GrpG h V els put back zero) (h64 : h ≤ 64) (a : α) : okQ 64 (V a) = true := L.okV 64 a h64
theorem GrpG.eqV (L : GrpG h V els put back zero) (h64 : h ≤ 64) (a b : α) : eqD (V a) (V b) = .ok (.bl (decide (a = b))) := by rw [eqD_ok (L.okV64 h64 a) (L.okV64 h64 b), L.eqq]
theorem GrpG.neV (L : GrpG h V els put back zero) (h64 : h ≤ 64) (a b : α) : neD (V a) (V b) = .ok (.bl (!decide (a = b))) := by rw [neD_ok (L.okV64 h64 a) (L.okV64 h64 b), L.eqq]
theorem GrpG.cancel_l (L : GrpG h V els put back zero) {a b c : α} (ha : a ∈ els) (hb : b ∈ els) (hc : c ∈ els) (e : put a b = put a c) : b = c := by
  have q := congrArg (put (back a)) e
  rwa [← L.assoc _ (L.backE a ha) _ ha _ hb, ← L.assoc _ (L.backE a ha) _ ha _ hc, L.bp a ha, L.zp b hb, L.zp c hc] at q
theorem GrpG.cancel_r (L : GrpG h V els put back zero) {a b c : α} (ha : a ∈ els) (hb : b ∈ els) (hc : c ∈ els) (e : put b a = put c a) : b = c := by
  have q := congrArg (put · (back a)) e
  rwa [L.assoc _ hb _ ha _ (L.backE a ha), L.assoc _ hc _ ha _ (L.backE a ha), L.pb a ha, L.pz b hb, L.pz c hc] at q
theorem GrpG.self (L : GrpG h V els put back zero) {a : α} (ha : a ∈ els) : put a a = a ↔ a = zero := by
  constructor
  · intro e
    exact L.cancel_l ha ha L.zeroE (e.trans (L.pz a ha).symm)
  · rintro rfl
    exact L.pz _ ha
theorem GrpG.back_of (L : GrpG h V els put back zero) {a b : α} (ha : a ∈ els) (hb : b ∈ els) (e : put b a = zero) : b = back a := L.cancel_r ha hb (L.backE a ha) (e.trans (L.bp a ha).symm)
theorem GrpG.back_zero (L : GrpG h V els put back zero) : back zero = zero := (L.back_of L.zeroE L.zeroE (L.pz _ L.zeroE)).symm
theorem GrpG.powE (L : GrpG h V els put back zero) {x : α} (hx : x ∈ els) : ∀ n, powG put zero n x ∈ els
  | 0 => L.zeroE
  | n + 1 => L.putE _ (GrpG.powE L hx n) _ hx
theorem GrpG.pow_one (L : GrpG h V els put back zero) {x : α} (hx : x ∈ els) : powG put zero 1 x = x := L.zp x hx
theorem GrpG.pow_add (L : GrpG h V els put back zero) {x : α} (hx : x ∈ els) (m : Nat) : ∀ n, powG put zero (m + n) x = put (powG put zero m x) (powG put zero n x)
  | 0 => (L.pz _ (L.powE hx m)).symm
  | n + 1 => by
    show put (powG put zero (m + n) x) x = put (powG put zero m x) (put (powG put zero n x) x)
    rw [GrpG.pow_add L hx m n, L.assoc _ (L.powE hx m) _ (L.powE hx n) _ hx]
end
theorem nodup_le {α : Type} [DecidableEq α] : ∀ {xs ys : List α}, xs.Nodup → (∀ x ∈ xs, x ∈ ys) → xs.length ≤ ys.length
  | [], _, _, _ => Nat.zero_le _
  | x :: xs, ys, hn, hs => by
    rw [List.nodup_cons] at hn
    have hx := hs x List.mem_cons_self
    have := nodup_le (xs := xs) (ys := ys.erase x) hn.2 fun y hy => (List.mem_erase_of_ne (fun e => hn.1 (by rw [← e]; exact hy))).mpr (hs y (List.mem_cons_of_mem _ hy))
    rw [List.length_erase_of_mem hx] at this
    have p := List.length_pos_of_mem hx
    rw [List.length_cons]
    omega
/-- the least number from 1 on by which an element comes to the nought -/
structure OrdG {α : Type} (put : α → α → α) (zero : α) (x : α) (m : Nat) : Prop where
  one : 1 ≤ m
  z : powG put zero m x = zero
  le : ∀ j : Nat, 1 ≤ j → j < m → powG put zero j x ≠ zero
theorem least_nat {P : Nat → Prop} : ∀ n : Nat, 1 ≤ n → P n → ∃ m, 1 ≤ m ∧ m ≤ n ∧ P m ∧ ∀ j, 1 ≤ j → j < m → ¬ P j := fun n => by
  induction n using Nat.strongRecOn with
  | ind n ih =>
    intro h1 hp
    by_cases h : ∃ j, 1 ≤ j ∧ j < n ∧ P j
    · obtain ⟨j, j1, j2, j3⟩ := h
      obtain ⟨m, m1, m2, m3⟩ := ih j j2 j1 j3
      exact ⟨m, m1, by omega, m3⟩
    · exact ⟨n, h1, Nat.le_refl _, hp, fun j j1 j2 q => h ⟨j, j1, j2, q⟩⟩
section
variable {α : Type} [DecidableEq α] {h : Nat} {V : α → D} {els : List α} {put : α → α → α} {back : α → α} {zero : α}
theorem GrpG.pow_sub (L : GrpG h V els put back zero) {x : α} (hx : x ∈ els) {i j : Nat} (hij : i ≤ j) (e : powG put zero i x = powG put zero j x) : powG put zero (j - i) x = zero := by
  have q : powG put zero j x = put (powG put zero (j - i) x) (powG put zero i x) := by rw [← L.pow_add hx]; congr 1; omega
  rw [q] at e
  exact (L.cancel_r (L.powE hx i) L.zeroE (L.powE hx (j - i)) ((L.zp _ (L.powE hx i)).trans e)).symm
theorem GrpG.ord_ex (L : GrpG h V els put back zero) {x : α} (hx : x ∈ els) : ∃ m, m ≤ els.length ∧ OrdG put zero x m := by
  have : ∃ i j, i < j ∧ j ≤ els.length ∧ powG put zero i x = powG put zero j x := by
    refine Classical.byContradiction fun hn => ?_
    have nd : ((List.range (els.length + 1)).map fun i => powG put zero i x).Nodup := by
      rw [List.nodup_iff_pairwise_ne, List.pairwise_map]
      refine List.Pairwise.imp_of_mem (R := (· < ·)) (fun ha hb hlt e => hn ⟨_, _, hlt, ?_, e⟩) (List.pairwise_lt_range)
      have := List.mem_range.mp hb
      omega
    have := nodup_le nd fun y hy => by
      obtain ⟨i, _, rfl⟩ := List.mem_map.mp hy
      exact L.powE hx i
    simp at this
    omega
  obtain ⟨i, j, h1, h2, e⟩ := this
  obtain ⟨m, m1, m2, m3, m4⟩ := least_nat (P := fun n => powG put zero n x = zero) (j - i) (by omega) (L.pow_sub hx (by omega) e)
  exact ⟨m, by omega, m1, m3, m4⟩
end
def putGT {α : Type} (put : α → α → α) (up : List Int) (c : List Int → List Int → α) (p q : α × List Int) : α × List Int := (put (put p.1 q.1) (c p.2 q.2), putV up p.2 q.2)
def zeroGT {α : Type} (back : α → α) (up : List Int) (c : List Int → List Int → α) : α × List Int := (back (c (zeroV up) (zeroV up)), zeroV up)
def backGT {α : Type} (put : α → α → α) (back : α → α) (up : List Int) (c : List Int → List Int → α) (p : α × List Int) : α × List Int := (back (put p.1 (put (c p.2 (backV up p.2)) (c (zeroV up) (zeroV up)))), backV up p.2)
def ThreeG {α : Type} (put : α → α → α) (up : List Int) (c : List Int → List Int → α) : Prop := ∀ x y z, OkE up x → OkE up y → OkE up z → put (c x y) (c (putV up x y) z) = put (c y z) (c x (putV up y z))
section
variable {α : Type} [DecidableEq α] {h : Nat} {V : α → D} {els : List α} {put : α → α → α} {back : α → α} {zero : α} {up : List Int} {c : List Int → List Int → α}
theorem GrpG.low (L : GrpG h V els put back zero) (h64 : h ≤ 64) (cm : ∀ a ∈ els, ∀ b ∈ els, put a b = put b a) (l16 : els.length ≤ 16) : LowG V els put back zero :=
  ⟨L.nd, l16, L.putE, L.backE, L.zeroE, L.assoc, cm, L.pz, L.pb, L.okV64 h64, L.eqq⟩
theorem carry_zl (L : GrpG h V els put back zero) (cm : ∀ a ∈ els, ∀ b ∈ els, put a b = put b a) (u : OkU up) (hc : OkCG els up c) (th : ThreeG put up c) {y : List Int} (hy : OkE up y) : c (zeroV up) y = c (zeroV up) (zeroV up) := by
  have z := zero_el u.g.ok
  have e := th _ _ y z z hy
  have zz : putV up (zeroV up) (zeroV up) = zeroV up := put_zero z
  have zy : putV up (zeroV up) y = y := by rw [putV_comm z.len hy.len]; exact put_zero hy
  rw [zz, zy] at e
  exact (L.cancel_r (hc _ _ z hy) (hc _ _ z z) (hc _ _ z hy) e).symm
theorem carry_zr (L : GrpG h V els put back zero) (cm : ∀ a ∈ els, ∀ b ∈ els, put a b = put b a) (u : OkU up) (hc : OkCG els up c) (th : ThreeG put up c) {x : List Int} (hx : OkE up x) : c x (zeroV up) = c (zeroV up) (zeroV up) := by
  have z := zero_el u.g.ok
  have e := th x _ _ hx z z
  have zz : putV up (zeroV up) (zeroV up) = zeroV up := put_zero z
  rw [zz, put_zero hx] at e
  exact L.cancel_r (hc _ _ hx z) (hc _ _ hx z) (hc _ _ z z) e
theorem carry_bk (L : GrpG h V els put back zero) (cm : ∀ a ∈ els, ∀ b ∈ els, put a b = put b a) (u : OkU up) (hc : OkCG els up c) (th : ThreeG put up c) {x : List Int} (hx : OkE up x) : c (backV up x) x = c x (backV up x) := by
  have z := zero_el u.g.ok
  have b := back_el u.g.ok hx.len
  have e := th x _ x hx b hx
  have e1 : putV up x (backV up x) = zeroV up := put_backV u.g.ok hx.len
  have e2 : putV up (backV up x) x = zeroV up := by rw [putV_comm b.len hx.len]; exact e1
  rw [e1, e2, carry_zl L cm u hc th hx, carry_zr L cm u hc th hx] at e
  exact (L.cancel_r (hc _ _ z z) (hc _ _ hx b) (hc _ _ b hx) e).symm
theorem towGrp (L : GrpG h V els put back zero) (cm : ∀ a ∈ els, ∀ b ∈ els, put a b = put b a) (l16 : els.length ≤ 16) (u : OkU up) (hc : OkCG els up c) (th : ThreeG put up c) :
    GrpG (h + 2) (paG V) (allG els up) (putGT put up c) (backGT put back up c) (zeroGT back up c) := by
  have z := zero_el u.g.ok
  have g0 := hc _ _ z z
  have ac : ∀ a ∈ els, ∀ b ∈ els, ∀ d ∈ els, put (put a b) d = put (put a d) b := fun a ha b hb d hd => by rw [L.assoc a ha b hb d hd, cm b hb d hd, L.assoc a ha d hd b hb]
  refine ⟨nodup_grid L.nd (mems_nodup up), ?_, ?_, ?_, ?_, ?_, ?_, ?_, ?_, ?_, ?_, ?_⟩
  · have l9 := u.mems_le
    have e : (allG els up).length = els.length * (mems up).length := by unfold allG; simp [List.length_flatMap, sum_const]
    rw [e]
    exact Nat.mul_le_mul l16 l9
  · rintro ⟨a, x⟩ hp ⟨b, y⟩ hq
    obtain ⟨ha, hx⟩ := mem_allG.mp hp
    obtain ⟨hb, hy⟩ := mem_allG.mp hq
    exact mem_allG.mpr ⟨L.putE _ (L.putE _ ha _ hb) _ (hc _ _ hx hy), put_el u.g.ok hx.len hy.len⟩
  · rintro ⟨a, x⟩ hp
    obtain ⟨ha, hx⟩ := mem_allG.mp hp
    have b := back_el u.g.ok hx.len
    exact mem_allG.mpr ⟨L.backE _ (L.putE _ ha _ (L.putE _ (hc _ _ hx b) _ g0)), b⟩
  · exact mem_allG.mpr ⟨L.backE _ g0, z⟩
  · rintro ⟨a, x⟩ hp ⟨b, y⟩ hq ⟨d, w⟩ hr
    obtain ⟨ha, hx⟩ := mem_allG.mp hp
    obtain ⟨hb, hy⟩ := mem_allG.mp hq
    obtain ⟨hd, hw⟩ := mem_allG.mp hr
    have pxy := put_el u.g.ok hx.len hy.len
    have pyw := put_el u.g.ok hy.len hw.len
    have hk := hc _ _ hx hy
    have hm := hc _ _ pxy hw
    have hn := hc _ _ hy hw
    have ho := hc _ _ hx pyw
    have hab := L.putE _ ha _ hb
    have hbd := L.putE _ hb _ hd
    unfold putGT
    dsimp only
    refine Prod.ext ?_ (putV_assoc hx.len hy.len hw.len)
    dsimp only
    rw [ac _ hab _ hk _ hd, L.assoc _ (L.putE _ hab _ hd) _ hk _ hm, th x y w hx hy hw, ← L.assoc _ (L.putE _ hab _ hd) _ hn _ ho, L.assoc a ha b hb d hd, L.assoc a ha _ hbd _ hn]
  · rintro ⟨a, x⟩ hp
    obtain ⟨ha, hx⟩ := mem_allG.mp hp
    unfold putGT zeroGT
    refine Prod.ext ?_ (put_zero hx)
    dsimp only
    rw [carry_zr L cm u hc th hx, L.assoc a ha _ (L.backE _ g0) _ g0, L.bp _ g0, L.pz a ha]
  · rintro ⟨a, x⟩ hp
    obtain ⟨ha, hx⟩ := mem_allG.mp hp
    unfold putGT zeroGT
    refine Prod.ext ?_ (by dsimp only; rw [putV_comm z.len hx.len]; exact put_zero hx)
    dsimp only
    rw [carry_zl L cm u hc th hx, ac _ (L.backE _ g0) _ ha _ g0, L.bp _ g0, L.zp a ha]
  · rintro ⟨a, x⟩ hp
    obtain ⟨ha, hx⟩ := mem_allG.mp hp
    have b := back_el u.g.ok hx.len
    have hk := hc _ _ hx b
    have hkg := L.putE _ hk _ g0
    have hm := L.putE _ ha _ hkg
    have hbm := L.backE _ hm
    unfold putGT zeroGT backGT
    refine Prod.ext ?_ (put_backV u.g.ok hx.len)
    dsimp only
    refine L.back_of g0 (L.putE _ (L.putE _ ha _ hbm) _ hk) ?_
    rw [L.assoc _ (L.putE _ ha _ hbm) _ hk _ g0, cm a ha _ hbm, L.assoc _ hbm _ ha _ hkg, L.bp _ hm]
  · rintro ⟨a, x⟩ hp
    obtain ⟨ha, hx⟩ := mem_allG.mp hp
    have b := back_el u.g.ok hx.len
    have hk := hc _ _ hx b
    have hkg := L.putE _ hk _ g0
    have hm := L.putE _ ha _ hkg
    have hbm := L.backE _ hm
    unfold putGT zeroGT backGT
    refine Prod.ext ?_ (by dsimp only; rw [putV_comm b.len hx.len]; exact put_backV u.g.ok hx.len)
    dsimp only
    rw [carry_bk L cm u hc th hx]
    refine L.back_of g0 (L.putE _ (L.putE _ hbm _ ha) _ hk) ?_
    rw [L.assoc _ (L.putE _ hbm _ ha) _ hk _ g0, L.assoc _ hbm _ ha _ hkg, L.bp _ hm]
  · intro n p hn
    obtain ⟨m, rfl⟩ : ∃ m, n = m + 1 := ⟨n - 1, by omega⟩
    obtain ⟨k, rfl⟩ : ∃ k, m = k + 1 := ⟨m - 1, by omega⟩
    show (okQ (k + 1) (V p.1) && (okQ (k + 1) (tuI p.2) && true)) = true
    rw [L.okV (k + 1) p.1 (by omega), okQ_tI k]
    rfl
  · intro p q
    show (eqQ (V p.1) (V q.1) && (eqQ (tuI p.2) (tuI q.2) && true)) = _
    rw [L.eqq, eqQ_tuG, Bool.and_true, ← Bool.decide_and]
    exact decide_eq_decide.mpr Prod.ext_iff.symm
/-- .. which is even where its table is -/
theorem towComm (cm : ∀ a ∈ els, ∀ b ∈ els, put a b = put b a) (sy : ∀ x y, OkE up x → OkE up y → c x y = c y x) : ∀ p ∈ allG els up, ∀ q ∈ allG els up, putGT put up c p q = putGT put up c q p := by
  rintro ⟨a, x⟩ hp ⟨b, y⟩ hq
  obtain ⟨ha, hx⟩ := mem_allG.mp hp
  obtain ⟨hb, hy⟩ := mem_allG.mp hq
  unfold putGT
  dsimp only
  rw [cm a ha b hb, sy x y hx hy, putV_comm hx.len hy.len]
end
theorem grpR {lo : List Int} (g : OkG lo) : GrpG 1 tuI (mems lo) (putV lo) (backV lo) (zeroV lo) where
  nd := mems_nodup lo
  len := by
    have := mems_len (rs := lo) fun n hn => by have := g.ok.two n hn; omega
    have := g.prod
    omega
  putE := fun a ha b hb => mem_mems.mpr (put_el g.ok (mem_mems.mp ha).len (mem_mems.mp hb).len)
  backE := fun a ha => mem_mems.mpr (back_el g.ok (mem_mems.mp ha).len)
  zeroE := mem_mems.mpr (zero_el g.ok)
  assoc := fun a ha b hb c hc => putV_assoc (mem_mems.mp ha).len (mem_mems.mp hb).len (mem_mems.mp hc).len
  pz := fun a ha => put_zero (mem_mems.mp ha)
  zp := fun a ha => by rw [putV_comm (zero_el g.ok).len (mem_mems.mp ha).len]; exact put_zero (mem_mems.mp ha)
  pb := fun a ha => put_backV g.ok (mem_mems.mp ha).len
  bp := fun a ha => by rw [putV_comm (back_el g.ok (mem_mems.mp ha).len).len (mem_mems.mp ha).len]; exact put_backV g.ok (mem_mems.mp ha).len
  okV := fun n a hn => by
    obtain ⟨k, rfl⟩ : ∃ k, n = k + 1 := ⟨n - 1, by omega⟩
    exact okQ_tI k a
  eqq := eqQ_tuG
theorem commR {lo : List Int} : ∀ a ∈ mems lo, ∀ b ∈ mems lo, putV lo a b = putV lo b a := fun _ ha _ hb => putV_comm (mem_mems.mp ha).len (mem_mems.mp hb).len
def HasF0 {α : Type} (V : α → D) (els : List α) (G : D) : Prop := ∃ f, mthD mt_has G = .ok f ∧ ∀ a ∈ els, f [V a] = .ok (.bl true)
def PutF0 {α : Type} (V : α → D) (els : List α) (put : α → α → α) (G : D) : Prop := ∃ f, mthD mt_put G = .ok f ∧ ∀ a ∈ els, ∀ b ∈ els, f [V a, V b] = .ok (V (put a b))
def BackedF0 {α : Type} (V : α → D) (els : List α) (back : α → α) (G : D) : Prop := ∃ f, mthD mt_backed G = .ok f ∧ ∀ a ∈ els, f [V a] = .ok (V (back a))
def MemF0 {α : Type} (V : α → D) (els : List α) (G : D) : Prop := ∃ f, mthD mt_members G = .ok f ∧ f [] = .ok (.lst (els.map V))
theorem hasR0 {lo : List Int} : HasF0 tuI (mems lo) (gR lo) := ⟨_, rfl, fun a ha => has_ok (mem_mems.mp ha)⟩
theorem putR0 {lo : List Int} (g : OkG lo) : PutF0 tuI (mems lo) (putV lo) (gR lo) := ⟨_, rfl, fun a ha b hb => put_ok g.ok (mem_mems.mp ha).len (mem_mems.mp hb).len⟩
theorem backedR0 {lo : List Int} (g : OkG lo) : BackedF0 tuI (mems lo) (backV lo) (gR lo) := ⟨_, rfl, fun a ha => backed_ok g.ok (mem_mems.mp ha).len⟩
theorem memR0 {lo : List Int} (g : OkG lo) : MemF0 tuI (mems lo) (gR lo) := ⟨_, rfl, members_ok g.ok g.most g.prod⟩
def HasF1 {α : Type} (V : α → D) (els : List α) (G : D) : Prop := ∃ f, mthD mt_has_T G = .ok f ∧ ∀ a ∈ els, f [V a] = .ok (.bl true)
def PutF1 {α : Type} (V : α → D) (els : List α) (put : α → α → α) (G : D) : Prop := ∃ f, mthD mt_put_T G = .ok f ∧ ∀ a ∈ els, ∀ b ∈ els, f [V a, V b] = .ok (V (put a b))
def BackedF1 {α : Type} (V : α → D) (els : List α) (back : α → α) (G : D) : Prop := ∃ f, mthD mt_backed_T G = .ok f ∧ ∀ a ∈ els, f [V a] = .ok (V (back a))
def MemF1 {α : Type} (V : α → D) (els : List α) (G : D) : Prop := ∃ f, mthD mt_members_T G = .ok f ∧ f [] = .ok (.lst (els.map V))
def SizeF1 (n : Int) (G : D) : Prop := ∃ f, mthD mt_size_T G = .ok f ∧ f [] = .ok (.int n)
def EvenF1 (G : D) (b : Bool) : Prop := ∃ f, mthD mt_is_even_T G = .ok f ∧ f [] = .ok (.bl b)
def AddF1 {α : Type} (V : α → D) (els : List α) (put : α → α → α) (G : D) : Prop := ∃ f, mthD mt_added_T G = .ok f ∧ ∀ a ∈ els, ∀ b ∈ els, f [V a, V b] = .ok (V (put a b))
theorem hasR1 {lo : List Int} : HasF1 tuI (mems lo) (gR lo) := ⟨_, rfl, fun a ha => has_ok (mem_mems.mp ha)⟩
theorem putR1 {lo : List Int} (g : OkG lo) : PutF1 tuI (mems lo) (putV lo) (gR lo) := ⟨_, rfl, fun a ha b hb => put_ok g.ok (mem_mems.mp ha).len (mem_mems.mp hb).len⟩
theorem backedR1 {lo : List Int} (g : OkG lo) : BackedF1 tuI (mems lo) (backV lo) (gR lo) := ⟨_, rfl, fun a ha => backed_ok g.ok (mem_mems.mp ha).len⟩
theorem memR1 {lo : List Int} (g : OkG lo) : MemF1 tuI (mems lo) (gR lo) := ⟨_, rfl, members_ok g.ok g.most g.prod⟩
def HasF2 {α : Type} (V : α → D) (els : List α) (G : D) : Prop := ∃ f, mthD mt_has_T_T G = .ok f ∧ ∀ a ∈ els, f [V a] = .ok (.bl true)
def PutF2 {α : Type} (V : α → D) (els : List α) (put : α → α → α) (G : D) : Prop := ∃ f, mthD mt_put_T_T G = .ok f ∧ ∀ a ∈ els, ∀ b ∈ els, f [V a, V b] = .ok (V (put a b))
def AddF2 {α : Type} (V : α → D) (els : List α) (put : α → α → α) (G : D) : Prop := ∃ f, mthD mt_added_T_T G = .ok f ∧ ∀ a ∈ els, ∀ b ∈ els, f [V a, V b] = .ok (V (put a b))
theorem towG_table {α : Type} {V : α → D} {G : D} {up : List Int} {c : List Int → List Int → α} : fldD (plOf [1] "table") (towG V G up c) = .ok (tabG V G up c) := fld_table _ _
theorem towG_ground {α : Type} {V : α → D} {G : D} {up : List Int} {c : List Int → List Int → α} : fldD (plOf [1] "ground") (towG V G up c) = .ok (V (c (zeroV up) (zeroV up))) := fld_ground _ _
theorem tabG_lower {α : Type} {V : α → D} {G : D} {up : List Int} {c : List Int → List Int → α} : fldD (plOf [2] "lower") (tabG V G up c) = .ok G := fldG_lower G (gR up) [dicF pkD V (prs up) fun p => c p.1 p.2]
theorem tabG_upper {α : Type} {V : α → D} {G : D} {up : List Int} {c : List Int → List Int → α} : fldD (plOf [2] "upper") (tabG V G up c) = .ok (gR up) := fldG_upper G (gR up) [dicF pkD V (prs up) fun p => c p.1 p.2]
theorem pa0 {α : Type} {V : α → D} (p : α × List Int) : ixD (paG V p) (.int 0) = .ok (V p.1) := rfl
theorem pa1 {α : Type} {V : α → D} (p : α × List Int) : ixD (paG V p) (.int 1) = .ok (tuI p.2) := rfl
theorem palen {α : Type} {V : α → D} (p : α × List Int) : lenD (paG V p) = .ok (.int 2) := rfl
theorem pa_is {α : Type} {V : α → D} (p : α × List Int) : isD isC isU (paG V p) (.ty "tuple") = .ok (.bl true) := is_tuple _ _ _
section
variable {α : Type} [DecidableEq α] {V : α → D} {els : List α} {put : α → α → α} {back : α → α} {zero : α} {G : D} {up : List Int} {c : List Int → List Int → α}
theorem memT1 (l144 : (allG els up).length ≤ 144) (u : OkU up) (fm : MemF0 V els G) : MemF1 (paG V) (allG els up) (towG V G up c) := by
  obtain ⟨f, f1, f2⟩ := fm
  have m := members_ok u.g.ok u.g.most u.g.prod
  have mm : mthD mt_members (gR up) = .ok (fun ds => d_Rounds_members (gR up :: ds)) := rfl
  have l2 := l_two
  have ft := towG_table (V := V) (G := G) (up := up) (c := c)
  have fl := tabG_lower (V := V) (G := G) (up := up) (c := c)
  have fu := tabG_upper (V := V) (G := G) (up := up) (c := c)
  have it1 : itemsD (.lst ((mems up).map tuI)) = .ok ((mems up).map tuI) := rfl
  refine ⟨fun ds => d_Tower_members (towG V G up c :: ds), rfl, ?_⟩
  obtain ⟨r', lp, s2, s3, e⟩ := forD_row (pre0 := els) (f := Tower_members_l2) V (fun done r => ∃ s2 s3, r = [.sh (towG V G up c), .ow .flat (.lst ((allG done up).map (paG V))), s2, s3])
    (ds := els) (pre := []) (r := [.sh (towG V G up c), .ow .flat (.lst []), .un, .un]) (fun done a hd r ⟨s2, s3, e⟩ => by
      subst e
      obtain ⟨rest, hr⟩ := hd
      have cc : ∀ s1 s3, Tower_members_c1 [.sh (towG V G up c), s1, .sh (V a), s3] ((mems up).map tuI) = .ok ((mems up).map fun x => paG V (a, x)) := fun s1 s3 => by
        unfold Tower_members_c1
        refine lcD_gmap tuI (fun x => paG V (a, x)) fun x _ => ⟨_, rfl, rfl, ?_⟩
        show _ = Res.ok (D.tup [V a, tuI x])
        generalize towG V G up c = TW at *
        generalize V a = A at *
        generalize tuI x = X at *
        simp [wipeR, l2]
      have en : (allG (done ++ [a]) up).map (paG V) = (allG done up).map (paG V) ++ (mems up).map fun x => paG V (a, x) := by
        unfold allG
        rw [List.flatMap_append, List.map_append]
        simp
      refine ⟨[.sh (towG V G up c), .ow .flat (.lst ((allG (done ++ [a]) up).map (paG V))), .sh (V a), s3], ?_, _, _, rfl⟩
      rw [en]
      have hlim : ((allG done up).map (paG V)).length + ((mems up).map fun x => paG V (a, x)).length ≤ lim := by
        have h1 : (allG (done ++ [a]) up).length ≤ (allG els up).length := by
          rw [← hr]
          unfold allG
          rw [List.flatMap_append (xs := done ++ [a])]
          simp
        have h2 := congrArg List.length en
        simp only [List.length_append, List.length_map] at h2 ⊢
        unfold lim
        omega
      have hl2 : ((mems up).map fun x => paG V (a, x)).length ≤ lim := by omega
      generalize hPL : ((mems up).map fun x => paG V (a, x)) = PL at *
      generalize hDL : (allG done up).map (paG V) = DL at *
      generalize D.lst ((mems up).map tuI) = ML at *
      generalize (mems up).map tuI = MM at *
      generalize towG V G up c = TW at *
      generalize tabG V G up c = T at *
      generalize V a = A at *
      generalize gR up = GU at *
      simp [Tower_members_l2, ft, fu, mm, m, it1, cc, extG, ownL, hlim, hl2]) (by simp) ⟨.un, .un, rfl⟩
  subst e
  rw [List.nil_append] at lp
  have it : itemsD (.lst (els.map V)) = .ok (els.map V) := rfl
  refine runD_rt rfl ?_
  simp only [startD, N_Tower_members, List.length_cons, List.length_nil, List.map_cons, List.map_nil, Nat.reduceAdd, Nat.reduceSub, Nat.zero_add, List.replicate, List.cons_append, List.nil_append]
  generalize (allG els up).map (paG V) = AL at *
  generalize D.lst (els.map V) = EL at *
  generalize els.map V = EE at *
  generalize towG V G up c = TW at *
  generalize tabG V G up c = T at *
  simp [e_Tower_members, ft, fl, f1, f2, it, lp, freeze]
theorem hasT1 (hf : HasF0 V els G) : HasF1 (paG V) (allG els up) (towG V G up c) := by
  obtain ⟨f, f1, f2⟩ := hf
  refine ⟨fun ds => d_Tower_has (towG V G up c :: ds), rfl, fun p hp => ?_⟩
  have hp := mem_allG.mp (show (p.1, p.2) ∈ allG els up from hp)
  have h1 := f2 _ hp.1
  have h2 := has_ok hp.2
  have ft := towG_table (V := V) (G := G) (up := up) (c := c)
  have fl := tabG_lower (V := V) (G := G) (up := up) (c := c)
  have fu := tabG_upper (V := V) (G := G) (up := up) (c := c)
  have p0 := pa0 (V := V) p
  have p1 := pa1 (V := V) p
  have it := pa_is (V := V) p
  have ln := palen (V := V) p
  have mu : mthD mt_has (gR up) = .ok (fun ds => d_Rounds_has (gR up :: ds)) := rfl
  refine runD_rt rfl ?_
  simp only [startD, N_Tower_has, List.length_cons, List.length_nil, List.map_cons, List.map_nil, Nat.reduceAdd, Nat.reduceSub, Nat.zero_add, List.replicate, List.cons_append, List.nil_append]
  generalize towG V G up c = TW at *
  generalize tabG V G up c = T at *
  generalize paG V p = P at *
  generalize V p.1 = V1 at *
  generalize gR up = GU at *
  simp [e_Tower_has, it, ln, ft, fl, fu, p0, p1, f1, h1, mu, h2]
theorem putT1 (hp : ∀ a ∈ els, ∀ b ∈ els, put a b ∈ els) (u : OkU up) (hc : OkCG els up c) (hf : PutF0 V els put G) : PutF1 (paG V) (allG els up) (putGT put up c) (towG V G up c) := by
  obtain ⟨f, f1, f2⟩ := hf
  refine ⟨fun ds => d_Tower_put (towG V G up c :: ds), rfl, fun p hpp q hq => ?_⟩
  have hpp := mem_allG.mp (show (p.1, p.2) ∈ allG els up from hpp)
  have hq := mem_allG.mp (show (q.1, q.2) ∈ allG els up from hq)
  have a1 := f2 _ hpp.1 _ hq.1
  have a2 := f2 _ (hp _ hpp.1 _ hq.1) _ (hc _ _ hpp.2 hq.2)
  have a3 := put_ok u.g.ok hpp.2.len hq.2.len
  have cr := carryG_ok (V := V) (G := G) (c := c) hpp.2 hq.2
  have ft := towG_table (V := V) (G := G) (up := up) (c := c)
  have fl := tabG_lower (V := V) (G := G) (up := up) (c := c)
  have fu := tabG_upper (V := V) (G := G) (up := up) (c := c)
  have p0 := pa0 (V := V) p
  have p1 := pa1 (V := V) p
  have q0 := pa0 (V := V) q
  have q1 := pa1 (V := V) q
  have l2 := l_two
  have mc : mthD mt_carry (tabG V G up c) = .ok (fun ds => d_Table_carry (tabG V G up c :: ds)) := rfl
  have mu : mthD mt_put (gR up) = .ok (fun ds => d_Rounds_put (gR up :: ds)) := rfl
  refine runD_rt rfl ?_
  simp only [startD, N_Tower_put, List.length_cons, List.length_nil, List.map_cons, List.map_nil, Nat.reduceAdd, Nat.reduceSub, Nat.zero_add, List.replicate, List.cons_append, List.nil_append]
  show _ = Oc.rt (.tup [V (put (put p.1 q.1) (c p.2 q.2)), tuI (putV up p.2 q.2)])
  generalize towG V G up c = TW at *
  generalize tabG V G up c = T at *
  generalize V (put (put p.1 q.1) (c p.2 q.2)) = v at *
  generalize V (put p.1 q.1) = w at *
  generalize V (c p.2 q.2) = k at *
  generalize tuI (putV up p.2 q.2) = z at *
  generalize paG V p = P at *
  generalize paG V q = Q at *
  generalize V p.1 = V1 at *
  generalize V q.1 = V2 at *
  generalize gR up = GU at *
  simp [e_Tower_put, ft, fl, fu, p0, p1, q0, q1, mc, cr, f1, a1, a2, mu, a3, l2]
theorem backedT1 (hp : ∀ a ∈ els, ∀ b ∈ els, put a b ∈ els) (u : OkU up) (hc : OkCG els up c) (fp : PutF0 V els put G) (hf : BackedF0 V els back G) : BackedF1 (paG V) (allG els up) (backGT put back up c) (towG V G up c) := by
  obtain ⟨f, f1, f2⟩ := hf
  obtain ⟨fq, g1, g2⟩ := fp
  refine ⟨fun ds => d_Tower_backed (towG V G up c :: ds), rfl, fun p hpp => ?_⟩
  have hpp := mem_allG.mp (show (p.1, p.2) ∈ allG els up from hpp)
  have z := zero_el u.g.ok
  have bk := back_el u.g.ok hpp.2.len
  have hk := hc _ _ hpp.2 bk
  have hg := hc _ _ z z
  have a1 := backed_ok u.g.ok hpp.2.len
  have cr := carryG_ok (V := V) (G := G) (c := c) hpp.2 bk
  have a2 := g2 _ hk _ hg
  have a3 := g2 _ hpp.1 _ (hp _ hk _ hg)
  have a4 := f2 _ (hp _ hpp.1 _ (hp _ hk _ hg))
  have ft := towG_table (V := V) (G := G) (up := up) (c := c)
  have fg := towG_ground (V := V) (G := G) (up := up) (c := c)
  have fl := tabG_lower (V := V) (G := G) (up := up) (c := c)
  have fu := tabG_upper (V := V) (G := G) (up := up) (c := c)
  have p0 := pa0 (V := V) p
  have p1 := pa1 (V := V) p
  have l2 := l_two
  have mc : mthD mt_carry (tabG V G up c) = .ok (fun ds => d_Table_carry (tabG V G up c :: ds)) := rfl
  have mu : mthD mt_backed (gR up) = .ok (fun ds => d_Rounds_backed (gR up :: ds)) := rfl
  refine runD_rt rfl ?_
  simp only [startD, N_Tower_backed, List.length_cons, List.length_nil, List.map_cons, List.map_nil, Nat.reduceAdd, Nat.reduceSub, Nat.zero_add, List.replicate, List.cons_append, List.nil_append]
  show _ = Oc.rt (.tup [V (back (put p.1 (put (c p.2 (backV up p.2)) (c (zeroV up) (zeroV up))))), tuI (backV up p.2)])
  generalize towG V G up c = TW at *
  generalize tabG V G up c = T at *
  generalize V (back (put p.1 (put (c p.2 (backV up p.2)) (c (zeroV up) (zeroV up))))) = v1 at *
  generalize V (put p.1 (put (c p.2 (backV up p.2)) (c (zeroV up) (zeroV up)))) = v2 at *
  generalize V (put (c p.2 (backV up p.2)) (c (zeroV up) (zeroV up))) = v3 at *
  generalize V (c p.2 (backV up p.2)) = v4 at *
  generalize V (c (zeroV up) (zeroV up)) = v5 at *
  generalize tuI (backV up p.2) = w at *
  generalize paG V p = P at *
  generalize V p.1 = V1 at *
  generalize gR up = GU at *
  simp [e_Tower_backed, ft, fg, fl, fu, p0, p1, mc, cr, f1, g1, a1, a2, a3, a4, mu, l2]
end
section
variable {α : Type} [DecidableEq α] {V : α → D} {els : List α} {put : α → α → α} {back : α → α} {zero : α} {T g : D}
theorem lookT1 {a : α} (hf : HasF1 V els (.obj 1 [T, g])) (ha : a ∈ els) : d_Group_look_at_1 [.obj 1 [T, g], V a] = .ok .non := by
  obtain ⟨f, f1, f2⟩ := hf
  have h := f2 a ha
  refine runD_nx (r := [.sh (.obj 1 [T, g]), .sh (V a)]) rfl ?_
  simp only [startD, N_Group_look_at, List.length_cons, List.length_nil, List.map_cons, List.map_nil, Nat.reduceAdd, Nat.reduceSub, Nat.zero_add, List.replicate, List.cons_append, List.nil_append]
  generalize D.obj 1 [T, g] = TW at *
  generalize V a = A at *
  simp [e_Group_look_at_1, f1, h]
theorem addT1 (hf : HasF1 V els (.obj 1 [T, g])) (pf : PutF1 V els put (.obj 1 [T, g])) : AddF1 V els put (.obj 1 [T, g]) := by
  refine ⟨fun ds => d_Group_added_1 (.obj 1 [T, g] :: ds), rfl, fun a ha b hb => ?_⟩
  have h1 := lookT1 hf ha
  have h2 := lookT1 hf hb
  obtain ⟨f, f1, f2⟩ := pf
  have h3 := f2 a ha b hb
  have m : mthD mt_look_at_T (.obj 1 [T, g]) = .ok (fun ds => d_Group_look_at_1 (.obj 1 [T, g] :: ds)) := rfl
  refine runD_rt rfl ?_
  simp only [startD, N_Group_added, List.length_cons, List.length_nil, List.map_cons, List.map_nil, Nat.reduceAdd, Nat.reduceSub, Nat.zero_add, List.replicate, List.cons_append, List.nil_append]
  generalize D.obj 1 [T, g] = TW at *
  generalize V (put a b) = R at *
  generalize V a = A at *
  generalize V b = B at *
  simp [e_Group_added_1, m, h1, h2, f1, h3]
theorem sizeT1 (fm : MemF1 V els (.obj 1 [T, g])) : SizeF1 (els.length : Nat) (.obj 1 [T, g]) := by
  refine ⟨fun ds => d_Group_size_1 (.obj 1 [T, g] :: ds), rfl, ?_⟩
  obtain ⟨f, f1, f2⟩ := fm
  have ln : lenD (.lst (els.map V)) = .ok (.int (els.length : Nat)) := by simp [lenD]
  refine runD_rt rfl ?_
  simp only [startD, N_Group_size, List.length_cons, List.length_nil, List.map_cons, List.map_nil, Nat.reduceAdd, Nat.reduceSub, Nat.zero_add, List.replicate, List.cons_append, List.nil_append]
  generalize D.obj 1 [T, g] = TW at *
  generalize D.lst (els.map V) = EL at *
  generalize ((els.length : Nat) : Int) = n at *
  simp [-lenD, e_Group_size_1, f1, f2, ln]
end
section
variable {α : Type} [DecidableEq α] {V : α → D} {els : List α} {put : α → α → α} {back : α → α} {zero : α} {G : D} {up : List Int} {c : List Int → List Int → α}
theorem hasT2 (hf : HasF1 V els G) : HasF2 (paG V) (allG els up) (towG V G up c) := by
  obtain ⟨f, f1, f2⟩ := hf
  refine ⟨fun ds => d_Tower_has_2 (towG V G up c :: ds), rfl, fun p hp => ?_⟩
  have hp := mem_allG.mp (show (p.1, p.2) ∈ allG els up from hp)
  have h1 := f2 _ hp.1
  have h2 := has_ok hp.2
  have ft := towG_table (V := V) (G := G) (up := up) (c := c)
  have fl := tabG_lower (V := V) (G := G) (up := up) (c := c)
  have fu := tabG_upper (V := V) (G := G) (up := up) (c := c)
  have p0 := pa0 (V := V) p
  have p1 := pa1 (V := V) p
  have it := pa_is (V := V) p
  have ln := palen (V := V) p
  have mu : mthD mt_has_T (gR up) = .ok (fun ds => d_Rounds_has (gR up :: ds)) := rfl
  refine runD_rt rfl ?_
  simp only [startD, N_Tower_has, List.length_cons, List.length_nil, List.map_cons, List.map_nil, Nat.reduceAdd, Nat.reduceSub, Nat.zero_add, List.replicate, List.cons_append, List.nil_append]
  generalize towG V G up c = TW at *
  generalize tabG V G up c = T at *
  generalize paG V p = P at *
  generalize V p.1 = V1 at *
  generalize gR up = GU at *
  simp [e_Tower_has_2, it, ln, ft, fl, fu, p0, p1, f1, h1, mu, h2]
theorem putT2 (hp : ∀ a ∈ els, ∀ b ∈ els, put a b ∈ els) (u : OkU up) (hc : OkCG els up c) (hf : PutF1 V els put G) : PutF2 (paG V) (allG els up) (putGT put up c) (towG V G up c) := by
  obtain ⟨f, f1, f2⟩ := hf
  refine ⟨fun ds => d_Tower_put_2 (towG V G up c :: ds), rfl, fun p hpp q hq => ?_⟩
  have hpp := mem_allG.mp (show (p.1, p.2) ∈ allG els up from hpp)
  have hq := mem_allG.mp (show (q.1, q.2) ∈ allG els up from hq)
  have a1 := f2 _ hpp.1 _ hq.1
  have a2 := f2 _ (hp _ hpp.1 _ hq.1) _ (hc _ _ hpp.2 hq.2)
  have a3 := put_ok u.g.ok hpp.2.len hq.2.len
  have cr := carryG_ok (V := V) (G := G) (c := c) hpp.2 hq.2
  have ft := towG_table (V := V) (G := G) (up := up) (c := c)
  have fl := tabG_lower (V := V) (G := G) (up := up) (c := c)
  have fu := tabG_upper (V := V) (G := G) (up := up) (c := c)
  have p0 := pa0 (V := V) p
  have p1 := pa1 (V := V) p
  have q0 := pa0 (V := V) q
  have q1 := pa1 (V := V) q
  have l2 := l_two
  have mc : mthD mt_carry (tabG V G up c) = .ok (fun ds => d_Table_carry (tabG V G up c :: ds)) := rfl
  have mu : mthD mt_put_T (gR up) = .ok (fun ds => d_Rounds_put (gR up :: ds)) := rfl
  refine runD_rt rfl ?_
  simp only [startD, N_Tower_put, List.length_cons, List.length_nil, List.map_cons, List.map_nil, Nat.reduceAdd, Nat.reduceSub, Nat.zero_add, List.replicate, List.cons_append, List.nil_append]
  show _ = Oc.rt (.tup [V (put (put p.1 q.1) (c p.2 q.2)), tuI (putV up p.2 q.2)])
  generalize towG V G up c = TW at *
  generalize tabG V G up c = T at *
  generalize V (put (put p.1 q.1) (c p.2 q.2)) = v at *
  generalize V (put p.1 q.1) = w at *
  generalize V (c p.2 q.2) = k at *
  generalize tuI (putV up p.2 q.2) = z at *
  generalize paG V p = P at *
  generalize paG V q = Q at *
  generalize V p.1 = V1 at *
  generalize V q.1 = V2 at *
  generalize gR up = GU at *
  simp [e_Tower_put_2, ft, fl, fu, p0, p1, q0, q1, mc, cr, f1, a1, a2, mu, a3, l2]
end
section
variable {α : Type} [DecidableEq α] {V : α → D} {els : List α} {put : α → α → α} {back : α → α} {zero : α} {T g : D}
theorem lookT2 {a : α} (hf : HasF2 V els (.obj 1 [T, g])) (ha : a ∈ els) : d_Group_look_at_1_2 [.obj 1 [T, g], V a] = .ok .non := by
  obtain ⟨f, f1, f2⟩ := hf
  have h := f2 a ha
  refine runD_nx (r := [.sh (.obj 1 [T, g]), .sh (V a)]) rfl ?_
  simp only [startD, N_Group_look_at, List.length_cons, List.length_nil, List.map_cons, List.map_nil, Nat.reduceAdd, Nat.reduceSub, Nat.zero_add, List.replicate, List.cons_append, List.nil_append]
  generalize D.obj 1 [T, g] = TW at *
  generalize V a = A at *
  simp [e_Group_look_at_1_2, f1, h]
theorem addT2 (hf : HasF2 V els (.obj 1 [T, g])) (pf : PutF2 V els put (.obj 1 [T, g])) : AddF2 V els put (.obj 1 [T, g]) := by
  refine ⟨fun ds => d_Group_added_1_2 (.obj 1 [T, g] :: ds), rfl, fun a ha b hb => ?_⟩
  have h1 := lookT2 hf ha
  have h2 := lookT2 hf hb
  obtain ⟨f, f1, f2⟩ := pf
  have h3 := f2 a ha b hb
  have m : mthD mt_look_at_T_T (.obj 1 [T, g]) = .ok (fun ds => d_Group_look_at_1_2 (.obj 1 [T, g] :: ds)) := rfl
  refine runD_rt rfl ?_
  simp only [startD, N_Group_added, List.length_cons, List.length_nil, List.map_cons, List.map_nil, Nat.reduceAdd, Nat.reduceSub, Nat.zero_add, List.replicate, List.cons_append, List.nil_append]
  generalize D.obj 1 [T, g] = TW at *
  generalize V (put a b) = R at *
  generalize V a = A at *
  generalize V b = B at *
  simp [e_Group_added_1_2, m, h1, h2, f1, h3]
end
/-- what the law's own functions tell of a group -/
def rdR (rs : List Int) : D := .tup [tuI rs]
def rdT {α : Type} (V : α → D) (GD : D) (up : List Int) (c : List Int → List Int → α) : D := .tup [GD, tuI up, cG V up c]
theorem rdR_len (rs : List Int) : lenD (rdR rs) = .ok (.int 1) := rfl
theorem rdR_0 (rs : List Int) : ixD (rdR rs) (.int 0) = .ok (tuI rs) := rfl
section
variable {α : Type} {V : α → D} {GD : D} {up : List Int} {c : List Int → List Int → α}
theorem rdT_len : lenD (rdT V GD up c) = .ok (.int 3) := rfl
theorem rdT_0 : ixD (rdT V GD up c) (.int 0) = .ok GD := rfl
theorem rdT_1 : ixD (rdT V GD up c) (.int 1) = .ok (tuI up) := rfl
theorem rdT_2 : ixD (rdT V GD up c) (.int 2) = .ok (cG V up c) := rfl
end
def PutL0 {α : Type} (V : α → D) (els : List α) (put : α → α → α) (GD : D) : Prop := ∀ a ∈ els, ∀ b ∈ els, d_q_put_r0 [GD, V a, V b] = .ok (V (put a b))
def AllL0 {α : Type} (V : α → D) (els : List α) (GD : D) : Prop := d_q_all_r0 [GD] = .ok (.lst (els.map V))
def MadeL0 (GD G : D) : Prop := d_q_made_r0 [GD] = .ok G
theorem putLR0 {rs : List Int} (g : OkG rs) : PutL0 tuI (mems rs) (putV rs) (rdR rs) := fun a ha b hb => by
  have p := q_plus_ok g.ok (mem_mems.mp ha).len (mem_mems.mp hb).len
  have e1 := rdR_len rs
  have e2 := rdR_0 rs
  have eq : eqD (.int 1) (.int 1) = .ok (.bl true) := rfl
  refine runD_rt rfl ?_
  simp only [startD, N_q_put, List.length_cons, List.length_nil, List.map_cons, List.map_nil, Nat.reduceAdd, Nat.reduceSub, Nat.zero_add, List.replicate, List.cons_append, List.nil_append]
  generalize rdR rs = GD at *
  generalize tuI (putV rs a b) = v at *
  generalize tuI rs = R at *
  generalize tuI a = A at *
  generalize tuI b = B at *
  simp [-lenD, e_q_put_r0, e1, e2, p, eq]
theorem allLR0 {rs : List Int} (g : OkG rs) : AllL0 tuI (mems rs) (rdR rs) := by
  have p := q_elements_ok g.ok g.most g.prod
  have e1 := rdR_len rs
  have e2 := rdR_0 rs
  have eq : eqD (.int 1) (.int 1) = .ok (.bl true) := rfl
  unfold AllL0
  first | refine runD_rt rfl ?_ | refine runO_rt rfl ?_
  simp only [startD, N_q_all, List.length_cons, List.length_nil, List.map_cons, List.map_nil, Nat.reduceAdd, Nat.reduceSub, Nat.zero_add, List.replicate, List.cons_append, List.nil_append]
  generalize rdR rs = GD at *
  generalize D.lst ((mems rs).map tuI) = v at *
  generalize tuI rs = R at *
  simp [-lenD, e_q_all_r0, e1, e2, p, eq]
theorem madeLR0 {rs : List Int} (g : OkG rs) : MadeL0 (rdR rs) (gR rs) := by
  have p := init_ok g (tuI rs) (.inl rfl)
  have e1 := rdR_len rs
  have e2 := rdR_0 rs
  have eq : eqD (.int 1) (.int 1) = .ok (.bl true) := rfl
  unfold MadeL0
  refine runD_rt rfl ?_
  simp only [startD, N_q_made, List.length_cons, List.length_nil, List.map_cons, List.map_nil, Nat.reduceAdd, Nat.reduceSub, Nat.zero_add, List.replicate, List.cons_append, List.nil_append]
  generalize rdR rs = GD at *
  generalize gR rs = v at *
  generalize tuI rs = R at *
  simp [-lenD, e_q_made_r0, e1, e2, p, eq]
def PutL1 {α : Type} (V : α → D) (els : List α) (put : α → α → α) (GD : D) : Prop := ∀ a ∈ els, ∀ b ∈ els, d_q_put_r1 [GD, V a, V b] = .ok (V (put a b))
def AllL1 {α : Type} (V : α → D) (els : List α) (GD : D) : Prop := d_q_all_r1 [GD] = .ok (.lst (els.map V))
def MadeL1 (GD G : D) : Prop := d_q_made_r1 [GD] = .ok G
theorem putLR1 {rs : List Int} (g : OkG rs) : PutL1 tuI (mems rs) (putV rs) (rdR rs) := fun a ha b hb => by
  have p := q_plus_ok g.ok (mem_mems.mp ha).len (mem_mems.mp hb).len
  have e1 := rdR_len rs
  have e2 := rdR_0 rs
  have eq : eqD (.int 1) (.int 1) = .ok (.bl true) := rfl
  refine runD_rt rfl ?_
  simp only [startD, N_q_put, List.length_cons, List.length_nil, List.map_cons, List.map_nil, Nat.reduceAdd, Nat.reduceSub, Nat.zero_add, List.replicate, List.cons_append, List.nil_append]
  generalize rdR rs = GD at *
  generalize tuI (putV rs a b) = v at *
  generalize tuI rs = R at *
  generalize tuI a = A at *
  generalize tuI b = B at *
  simp [-lenD, e_q_put_r1, e1, e2, p, eq]
theorem allLR1 {rs : List Int} (g : OkG rs) : AllL1 tuI (mems rs) (rdR rs) := by
  have p := q_elements_ok g.ok g.most g.prod
  have e1 := rdR_len rs
  have e2 := rdR_0 rs
  have eq : eqD (.int 1) (.int 1) = .ok (.bl true) := rfl
  unfold AllL1
  first | refine runD_rt rfl ?_ | refine runO_rt rfl ?_
  simp only [startD, N_q_all, List.length_cons, List.length_nil, List.map_cons, List.map_nil, Nat.reduceAdd, Nat.reduceSub, Nat.zero_add, List.replicate, List.cons_append, List.nil_append]
  generalize rdR rs = GD at *
  generalize D.lst ((mems rs).map tuI) = v at *
  generalize tuI rs = R at *
  simp [-lenD, e_q_all_r1, e1, e2, p, eq]
theorem madeLR1 {rs : List Int} (g : OkG rs) : MadeL1 (rdR rs) (gR rs) := by
  have p := init_ok g (tuI rs) (.inl rfl)
  have e1 := rdR_len rs
  have e2 := rdR_0 rs
  have eq : eqD (.int 1) (.int 1) = .ok (.bl true) := rfl
  unfold MadeL1
  refine runD_rt rfl ?_
  simp only [startD, N_q_made, List.length_cons, List.length_nil, List.map_cons, List.map_nil, Nat.reduceAdd, Nat.reduceSub, Nat.zero_add, List.replicate, List.cons_append, List.nil_append]
  generalize rdR rs = GD at *
  generalize gR rs = v at *
  generalize tuI rs = R at *
  simp [-lenD, e_q_made_r1, e1, e2, p, eq]
def PutL2 {α : Type} (V : α → D) (els : List α) (put : α → α → α) (GD : D) : Prop := ∀ a ∈ els, ∀ b ∈ els, d_q_put [GD, V a, V b] = .ok (V (put a b))
def AllL2 {α : Type} (V : α → D) (els : List α) (GD : D) : Prop := d_q_all [GD] = .ok (.lst (els.map V))
def MadeL2 (GD G : D) : Prop := d_q_made [GD] = .ok G
theorem putLR2 {rs : List Int} (g : OkG rs) : PutL2 tuI (mems rs) (putV rs) (rdR rs) := fun a ha b hb => by
  have p := q_plus_ok g.ok (mem_mems.mp ha).len (mem_mems.mp hb).len
  have e1 := rdR_len rs
  have e2 := rdR_0 rs
  have eq : eqD (.int 1) (.int 1) = .ok (.bl true) := rfl
  refine runD_rt rfl ?_
  simp only [startD, N_q_put, List.length_cons, List.length_nil, List.map_cons, List.map_nil, Nat.reduceAdd, Nat.reduceSub, Nat.zero_add, List.replicate, List.cons_append, List.nil_append]
  generalize rdR rs = GD at *
  generalize tuI (putV rs a b) = v at *
  generalize tuI rs = R at *
  generalize tuI a = A at *
  generalize tuI b = B at *
  simp [-lenD, e_q_put, e1, e2, p, eq]
theorem allLR2 {rs : List Int} (g : OkG rs) : AllL2 tuI (mems rs) (rdR rs) := by
  have p := q_elements_ok g.ok g.most g.prod
  have e1 := rdR_len rs
  have e2 := rdR_0 rs
  have eq : eqD (.int 1) (.int 1) = .ok (.bl true) := rfl
  unfold AllL2
  first | refine runD_rt rfl ?_ | refine runO_rt rfl ?_
  simp only [startD, N_q_all, List.length_cons, List.length_nil, List.map_cons, List.map_nil, Nat.reduceAdd, Nat.reduceSub, Nat.zero_add, List.replicate, List.cons_append, List.nil_append]
  generalize rdR rs = GD at *
  generalize D.lst ((mems rs).map tuI) = v at *
  generalize tuI rs = R at *
  simp [-lenD, e_q_all, e1, e2, p, eq]
theorem madeLR2 {rs : List Int} (g : OkG rs) : MadeL2 (rdR rs) (gR rs) := by
  have p := init_ok g (tuI rs) (.inl rfl)
  have e1 := rdR_len rs
  have e2 := rdR_0 rs
  have eq : eqD (.int 1) (.int 1) = .ok (.bl true) := rfl
  unfold MadeL2
  refine runD_rt rfl ?_
  simp only [startD, N_q_made, List.length_cons, List.length_nil, List.map_cons, List.map_nil, Nat.reduceAdd, Nat.reduceSub, Nat.zero_add, List.replicate, List.cons_append, List.nil_append]
  generalize rdR rs = GD at *
  generalize gR rs = v at *
  generalize tuI rs = R at *
  simp [-lenD, e_q_made, e1, e2, p, eq]
section
variable {α : Type} [DecidableEq α] {V : α → D} {els : List α} {put : α → α → α} {GD G : D} {up : List Int} {c : List Int → List Int → α}
theorem putLT1 (hp : ∀ a ∈ els, ∀ b ∈ els, put a b ∈ els) (u : OkU up) (hc : OkCG els up c) (pl : PutL0 V els put GD) : PutL1 (paG V) (allG els up) (putGT put up c) (rdT V GD up c) := fun p hpp q hq => by
  have hpp := mem_allG.mp (show (p.1, p.2) ∈ allG els up from hpp)
  have hq := mem_allG.mp (show (q.1, q.2) ∈ allG els up from hq)
  have a1 := pl _ hpp.1 _ hq.1
  have a2 := pl _ (hp _ hpp.1 _ hq.1) _ (hc _ _ hpp.2 hq.2)
  have a3 := q_plus_ok u.g.ok hpp.2.len hq.2.len
  have gt := getG (V := V) c hpp.2 hq.2
  have e1 := rdT_len (V := V) (GD := GD) (up := up) (c := c)
  have eq : eqD (.int 3) (.int 1) = .ok (.bl false) := rfl
  have p0 := pa0 (V := V) p
  have p1 := pa1 (V := V) p
  have q0 := pa0 (V := V) q
  have q1 := pa1 (V := V) q
  have l2 := l_two
  have tg : ∀ r : Env, (tupG 3 (consG (nameG 3) (consG (nameG 4) (consG (nameG 5) nilG)))) (rdT V GD up c) r = .ok (((r.set 3 (.sh GD)).set 4 (.sh (tuI up))).set 5 (.sh (cG V up c))) := fun r => by
    unfold rdT
    simp
  refine runD_rt rfl ?_
  simp only [startD, N_q_put, List.length_cons, List.length_nil, List.map_cons, List.map_nil, Nat.reduceAdd, Nat.reduceSub, Nat.zero_add, List.replicate, List.cons_append, List.nil_append]
  show _ = Oc.rt (.tup [V (put (put p.1 q.1) (c p.2 q.2)), tuI (putV up p.2 q.2)])
  generalize rdT V GD up c = T at *
  generalize V (put (put p.1 q.1) (c p.2 q.2)) = v1 at *
  generalize V (put p.1 q.1) = v2 at *
  generalize V (c p.2 q.2) = v3 at *
  generalize tuI (putV up p.2 q.2) = w at *
  generalize cG V up c = C at *
  generalize paG V p = P at *
  generalize paG V q = Q at *
  generalize V p.1 = V1 at *
  generalize V q.1 = V2 at *
  generalize tuI p.2 = X at *
  generalize tuI q.2 = Y at *
  generalize tuI up = U at *
  simp [-lenD, e_q_put_r1, e1, eq, tg, p0, p1, q0, q1, a1, gt, a2, a3, l2]
theorem allLT1 (l144 : (allG els up).length ≤ 144) (u : OkU up) (al : AllL0 V els GD) : AllL1 (paG V) (allG els up) (rdT V GD up c) := by
  have m := q_elements_ok u.g.ok u.g.most u.g.prod
  have l2 := l_two
  have e0 := rdT_0 (V := V) (GD := GD) (up := up) (c := c)
  have e1 := rdT_1 (V := V) (GD := GD) (up := up) (c := c)
  have el := rdT_len (V := V) (GD := GD) (up := up) (c := c)
  have eq : eqD (.int 3) (.int 1) = .ok (.bl false) := rfl
  have it1 : itemsD (.lst ((mems up).map tuI)) = .ok ((mems up).map tuI) := rfl
  unfold AllL0 at al
  unfold AllL1
  obtain ⟨r', lp, s2, s3, e⟩ := forD_row (pre0 := els) (f := q_all_r1_l2) V (fun done r => ∃ s2 s3, r = [.sh (rdT V GD up c), .ow .flat (.lst ((allG done up).map (paG V))), s2, s3])
    (ds := els) (pre := []) (r := [.sh (rdT V GD up c), .ow .flat (.lst []), .un, .un]) (fun done a hd r ⟨s2, s3, e⟩ => by
      subst e
      obtain ⟨rest, hr⟩ := hd
      have cc : ∀ s1 s3, q_all_r1_c1 [.sh (rdT V GD up c), s1, .sh (V a), s3] ((mems up).map tuI) = .ok ((mems up).map fun x => paG V (a, x)) := fun s1 s3 => by
        unfold q_all_r1_c1
        refine lcD_gmap tuI (fun x => paG V (a, x)) fun x _ => ⟨_, rfl, rfl, ?_⟩
        show _ = Res.ok (D.tup [V a, tuI x])
        generalize rdT V GD up c = TW at *
        generalize V a = A at *
        generalize tuI x = X at *
        simp [wipeR, l2]
      have en : (allG (done ++ [a]) up).map (paG V) = (allG done up).map (paG V) ++ (mems up).map fun x => paG V (a, x) := by
        unfold allG
        rw [List.flatMap_append, List.map_append]
        simp
      refine ⟨[.sh (rdT V GD up c), .ow .flat (.lst ((allG (done ++ [a]) up).map (paG V))), .sh (V a), s3], ?_, _, _, rfl⟩
      rw [en]
      have hlim : ((allG done up).map (paG V)).length + ((mems up).map fun x => paG V (a, x)).length ≤ lim := by
        have h1 : (allG (done ++ [a]) up).length ≤ (allG els up).length := by
          rw [← hr]
          unfold allG
          rw [List.flatMap_append (xs := done ++ [a])]
          simp
        have h2 := congrArg List.length en
        simp only [List.length_append, List.length_map] at h2 ⊢
        unfold lim
        omega
      have hl2 : ((mems up).map fun x => paG V (a, x)).length ≤ lim := by omega
      generalize hPL : ((mems up).map fun x => paG V (a, x)) = PL at *
      generalize hDL : (allG done up).map (paG V) = DL at *
      generalize D.lst ((mems up).map tuI) = ML at *
      generalize (mems up).map tuI = MM at *
      generalize rdT V GD up c = TW at *
      generalize V a = A at *
      generalize tuI up = U at *
      simp [q_all_r1_l2, e1, m, it1, cc, extG, ownL, hlim, hl2]) (by simp) ⟨.un, .un, rfl⟩
  subst e
  rw [List.nil_append] at lp
  have it : itemsD (.lst (els.map V)) = .ok (els.map V) := rfl
  first | refine runD_rt rfl ?_ | refine runO_rt rfl ?_
  simp only [startD, N_q_all, List.length_cons, List.length_nil, List.map_cons, List.map_nil, Nat.reduceAdd, Nat.reduceSub, Nat.zero_add, List.replicate, List.cons_append, List.nil_append]
  generalize (allG els up).map (paG V) = AL at *
  generalize D.lst (els.map V) = EL at *
  generalize els.map V = EE at *
  generalize rdT V GD up c = TW at *
  generalize tuI up = U at *
  simp [-lenD, e_q_all_r1, el, eq, e0, al, it, lp, frzAt, freeze, giveG]
theorem madeLT1 {h : Nat} {back : α → α} {zero : α} {T : D} (u : OkU up) (ap : apartK ((prs up).map pkD) = true) (ml : MadeL0 GD G) (ti : d_Table_init [G, gR up, cG V up c] = .ok T) (wi : d_Tower_init [T] = .ok (towG V G up c)) : MadeL1 (rdT V GD up c) (towG V G up c) := by
  have p := init_ok u.g (tuI up) (.inl rfl)
  have e0 := rdT_0 (V := V) (GD := GD) (up := up) (c := c)
  have e1 := rdT_1 (V := V) (GD := GD) (up := up) (c := c)
  have e2 := rdT_2 (V := V) (GD := GD) (up := up) (c := c)
  have el := rdT_len (V := V) (GD := GD) (up := up) (c := c)
  have eq : eqD (.int 3) (.int 1) = .ok (.bl false) := rfl
  have dd : dictD (cG V up c) = .ok (cG V up c) := dictD_F (prs up) (fun p => c p.1 p.2) ap
  unfold MadeL0 at ml
  unfold MadeL1
  refine runD_rt rfl ?_
  simp only [startD, N_q_made, List.length_cons, List.length_nil, List.map_cons, List.map_nil, Nat.reduceAdd, Nat.reduceSub, Nat.zero_add, List.replicate, List.cons_append, List.nil_append]
  generalize rdT V GD up c = RD at *
  generalize towG V G up c = TW at *
  generalize cG V up c = C at *
  generalize tuI up = U at *
  generalize gR up = GU at *
  simp [-lenD, e_q_made_r1, el, eq, e0, e1, e2, ml, p, dd, ti, wi]
end
section
variable {α : Type} [DecidableEq α] {V : α → D} {els : List α} {put : α → α → α} {GD G : D} {up : List Int} {c : List Int → List Int → α}
theorem putLT2 (hp : ∀ a ∈ els, ∀ b ∈ els, put a b ∈ els) (u : OkU up) (hc : OkCG els up c) (pl : PutL1 V els put GD) : PutL2 (paG V) (allG els up) (putGT put up c) (rdT V GD up c) := fun p hpp q hq => by
  have hpp := mem_allG.mp (show (p.1, p.2) ∈ allG els up from hpp)
  have hq := mem_allG.mp (show (q.1, q.2) ∈ allG els up from hq)
  have a1 := pl _ hpp.1 _ hq.1
  have a2 := pl _ (hp _ hpp.1 _ hq.1) _ (hc _ _ hpp.2 hq.2)
  have a3 := q_plus_ok u.g.ok hpp.2.len hq.2.len
  have gt := getG (V := V) c hpp.2 hq.2
  have e1 := rdT_len (V := V) (GD := GD) (up := up) (c := c)
  have eq : eqD (.int 3) (.int 1) = .ok (.bl false) := rfl
  have p0 := pa0 (V := V) p
  have p1 := pa1 (V := V) p
  have q0 := pa0 (V := V) q
  have q1 := pa1 (V := V) q
  have l2 := l_two
  have tg : ∀ r : Env, (tupG 3 (consG (nameG 3) (consG (nameG 4) (consG (nameG 5) nilG)))) (rdT V GD up c) r = .ok (((r.set 3 (.sh GD)).set 4 (.sh (tuI up))).set 5 (.sh (cG V up c))) := fun r => by
    unfold rdT
    simp
  refine runD_rt rfl ?_
  simp only [startD, N_q_put, List.length_cons, List.length_nil, List.map_cons, List.map_nil, Nat.reduceAdd, Nat.reduceSub, Nat.zero_add, List.replicate, List.cons_append, List.nil_append]
  show _ = Oc.rt (.tup [V (put (put p.1 q.1) (c p.2 q.2)), tuI (putV up p.2 q.2)])
  generalize rdT V GD up c = T at *
  generalize V (put (put p.1 q.1) (c p.2 q.2)) = v1 at *
  generalize V (put p.1 q.1) = v2 at *
  generalize V (c p.2 q.2) = v3 at *
  generalize tuI (putV up p.2 q.2) = w at *
  generalize cG V up c = C at *
  generalize paG V p = P at *
  generalize paG V q = Q at *
  generalize V p.1 = V1 at *
  generalize V q.1 = V2 at *
  generalize tuI p.2 = X at *
  generalize tuI q.2 = Y at *
  generalize tuI up = U at *
  simp [-lenD, e_q_put, e1, eq, tg, p0, p1, q0, q1, a1, gt, a2, a3, l2]
theorem allLT2 (l144 : (allG els up).length ≤ 144) (u : OkU up) (al : AllL1 V els GD) : AllL2 (paG V) (allG els up) (rdT V GD up c) := by
  have m := q_elements_ok u.g.ok u.g.most u.g.prod
  have l2 := l_two
  have e0 := rdT_0 (V := V) (GD := GD) (up := up) (c := c)
  have e1 := rdT_1 (V := V) (GD := GD) (up := up) (c := c)
  have el := rdT_len (V := V) (GD := GD) (up := up) (c := c)
  have eq : eqD (.int 3) (.int 1) = .ok (.bl false) := rfl
  have it1 : itemsD (.lst ((mems up).map tuI)) = .ok ((mems up).map tuI) := rfl
  unfold AllL1 at al
  unfold AllL2
  obtain ⟨r', lp, s2, s3, e⟩ := forD_row (pre0 := els) (f := q_all_l2) V (fun done r => ∃ s2 s3, r = [.sh (rdT V GD up c), .ow .flat (.lst ((allG done up).map (paG V))), s2, s3])
    (ds := els) (pre := []) (r := [.sh (rdT V GD up c), .ow .flat (.lst []), .un, .un]) (fun done a hd r ⟨s2, s3, e⟩ => by
      subst e
      obtain ⟨rest, hr⟩ := hd
      have cc : ∀ s1 s3, q_all_c1 [.sh (rdT V GD up c), s1, .sh (V a), s3] ((mems up).map tuI) = .ok ((mems up).map fun x => paG V (a, x)) := fun s1 s3 => by
        unfold q_all_c1
        refine lcD_gmap tuI (fun x => paG V (a, x)) fun x _ => ⟨_, rfl, rfl, ?_⟩
        show _ = Res.ok (D.tup [V a, tuI x])
        generalize rdT V GD up c = TW at *
        generalize V a = A at *
        generalize tuI x = X at *
        simp [wipeR, l2]
      have en : (allG (done ++ [a]) up).map (paG V) = (allG done up).map (paG V) ++ (mems up).map fun x => paG V (a, x) := by
        unfold allG
        rw [List.flatMap_append, List.map_append]
        simp
      refine ⟨[.sh (rdT V GD up c), .ow .flat (.lst ((allG (done ++ [a]) up).map (paG V))), .sh (V a), s3], ?_, _, _, rfl⟩
      rw [en]
      have hlim : ((allG done up).map (paG V)).length + ((mems up).map fun x => paG V (a, x)).length ≤ lim := by
        have h1 : (allG (done ++ [a]) up).length ≤ (allG els up).length := by
          rw [← hr]
          unfold allG
          rw [List.flatMap_append (xs := done ++ [a])]
          simp
        have h2 := congrArg List.length en
        simp only [List.length_append, List.length_map] at h2 ⊢
        unfold lim
        omega
      have hl2 : ((mems up).map fun x => paG V (a, x)).length ≤ lim := by omega
      generalize hPL : ((mems up).map fun x => paG V (a, x)) = PL at *
      generalize hDL : (allG done up).map (paG V) = DL at *
      generalize D.lst ((mems up).map tuI) = ML at *
      generalize (mems up).map tuI = MM at *
      generalize rdT V GD up c = TW at *
      generalize V a = A at *
      generalize tuI up = U at *
      simp [q_all_l2, e1, m, it1, cc, extG, ownL, hlim, hl2]) (by simp) ⟨.un, .un, rfl⟩
  subst e
  rw [List.nil_append] at lp
  have it : itemsD (.lst (els.map V)) = .ok (els.map V) := rfl
  first | refine runD_rt rfl ?_ | refine runO_rt rfl ?_
  simp only [startD, N_q_all, List.length_cons, List.length_nil, List.map_cons, List.map_nil, Nat.reduceAdd, Nat.reduceSub, Nat.zero_add, List.replicate, List.cons_append, List.nil_append]
  generalize (allG els up).map (paG V) = AL at *
  generalize D.lst (els.map V) = EL at *
  generalize els.map V = EE at *
  generalize rdT V GD up c = TW at *
  generalize tuI up = U at *
  simp [-lenD, e_q_all, el, eq, e0, al, it, lp, frzAt, freeze, giveG]
theorem madeLT2 {h : Nat} {back : α → α} {zero : α} {T : D} (u : OkU up) (ap : apartK ((prs up).map pkD) = true) (ml : MadeL1 GD G) (ti : d_Table_init [G, gR up, cG V up c] = .ok T) (wi : d_Tower_init [T] = .ok (towG V G up c)) : MadeL2 (rdT V GD up c) (towG V G up c) := by
  have p := init_ok u.g (tuI up) (.inl rfl)
  have e0 := rdT_0 (V := V) (GD := GD) (up := up) (c := c)
  have e1 := rdT_1 (V := V) (GD := GD) (up := up) (c := c)
  have e2 := rdT_2 (V := V) (GD := GD) (up := up) (c := c)
  have el := rdT_len (V := V) (GD := GD) (up := up) (c := c)
  have eq : eqD (.int 3) (.int 1) = .ok (.bl false) := rfl
  have dd : dictD (cG V up c) = .ok (cG V up c) := dictD_F (prs up) (fun p => c p.1 p.2) ap
  unfold MadeL1 at ml
  unfold MadeL2
  refine runD_rt rfl ?_
  simp only [startD, N_q_made, List.length_cons, List.length_nil, List.map_cons, List.map_nil, Nat.reduceAdd, Nat.reduceSub, Nat.zero_add, List.replicate, List.cons_append, List.nil_append]
  generalize rdT V GD up c = RD at *
  generalize towG V G up c = TW at *
  generalize cG V up c = C at *
  generalize tuI up = U at *
  generalize gR up = GU at *
  simp [-lenD, e_q_made, el, eq, e0, e1, e2, ml, p, dd, ti, wi]
end
/-- the plain carries in an even group -/
def sumG {α : Type} (put : α → α → α) (zero : α) (e : Nat → Nat) (a : Nat → α) : List Nat → α
  | [] => zero
  | i :: l => put (powG put zero (e i) (a i)) (sumG put zero e a l)
def epsG (up x y : List Int) (i : Nat) : Nat := if up.getD i 0 ≤ x.getD i 0 + y.getD i 0 then 1 else 0
def plainG {α : Type} (put : α → α → α) (zero : α) (up : List Int) (a : Nat → α) (x y : List Int) : α := sumG put zero (epsG up x y) a (List.range up.length)
section
variable {α : Type} [DecidableEq α] {h : Nat} {V : α → D} {els : List α} {put : α → α → α} {back : α → α} {zero : α}
theorem sumG_in (L : GrpG h V els put back zero) {e : Nat → Nat} {a : Nat → α} : ∀ {l : List Nat}, (∀ i ∈ l, a i ∈ els) → sumG put zero e a l ∈ els
  | [], _ => L.zeroE
  | i :: l, ha => L.putE _ (L.powE (ha i List.mem_cons_self) _) _ (sumG_in L fun j hj => ha j (List.mem_cons_of_mem _ hj))
theorem sumG_add (L : GrpG h V els put back zero) (cm : ∀ a ∈ els, ∀ b ∈ els, put a b = put b a) {e f : Nat → Nat} {a : Nat → α} : ∀ {l : List Nat}, (∀ i ∈ l, a i ∈ els) → put (sumG put zero e a l) (sumG put zero f a l) = sumG put zero (fun i => e i + f i) a l
  | [], _ => L.pz _ L.zeroE
  | i :: l, ha => by
    have hi := ha i List.mem_cons_self
    have hr := fun j hj => ha j (List.mem_cons_of_mem i hj)
    have p := L.powE hi (e i)
    have q := L.powE hi (f i)
    have s := sumG_in L (e := e) hr
    have t := sumG_in L (e := f) hr
    show put (put _ _) (put _ _) = put _ _
    rw [← sumG_add L cm hr, L.pow_add hi, L.assoc _ p _ s _ (L.putE _ q _ t), ← L.assoc _ s _ q _ t, cm _ s _ q, L.assoc _ q _ s _ t, ← L.assoc _ p _ q _ (L.putE _ s _ t)]
theorem sumG_congr {e f : Nat → Nat} {a : Nat → α} : ∀ {l : List Nat}, (∀ i ∈ l, e i = f i) → sumG put zero e a l = sumG put zero f a l
  | [], _ => rfl
  | i :: l, hh => by
    show put _ _ = put _ _
    rw [hh i List.mem_cons_self, sumG_congr fun j hj => hh j (List.mem_cons_of_mem _ hj)]
/-- walked from anything on -/
theorem sumG_fold (L : GrpG h V els put back zero) {b : Nat → Bool} {e : Nat → Nat} {a : Nat → α} (he : ∀ i, e i = if b i = true then 1 else 0) : ∀ {l : List Nat} {t : α}, (∀ i ∈ l, a i ∈ els) → t ∈ els → l.foldl (fun t i => if b i = true then put t (a i) else t) t = put t (sumG put zero e a l)
  | [], t, _, ht => (L.pz t ht).symm
  | i :: l, t, ha, ht => by
    have hi := ha i List.mem_cons_self
    have hr := fun j hj => ha j (List.mem_cons_of_mem i hj)
    rw [List.foldl_cons]
    show _ = put t (put (powG put zero (e i) (a i)) (sumG put zero e a l))
    cases hb : b i with
    | true =>
      rw [if_pos rfl, sumG_fold L he hr (L.putE _ ht _ hi), he, hb, if_pos rfl, L.pow_one hi, L.assoc _ ht _ hi _ (sumG_in L hr)]
    | false =>
      rw [if_neg (by simp), sumG_fold L he hr ht, he, hb, if_neg (by simp)]
      show _ = put t (put zero _)
      rw [L.zp _ (sumG_in L hr)]
theorem eps_three {up x y z : List Int} (hx : OkE up x) (hy : OkE up y) (hz : OkE up z) {i : Nat} (hi : i < up.length) : epsG up x y i + epsG up (putV up x y) z i = epsG up y z i + epsG up x (putV up y z) i := by
  unfold epsG
  rw [putV_at hi hx.len hy.len, putV_at hi hy.len hz.len]
  obtain ⟨x0, x1⟩ := hx.get hi
  obtain ⟨y0, y1⟩ := hy.get hi
  obtain ⟨z0, z1⟩ := hz.get hi
  generalize x.getD i 0 = a at *
  generalize y.getD i 0 = b at *
  generalize z.getD i 0 = c at *
  generalize up.getD i 0 = n at *
  have m : ∀ u v : Int, 0 ≤ u → u < n → 0 ≤ v → v < n → (u + v) % n = if n ≤ u + v then u + v - n else u + v := fun u v u0 u1 v0 v1 => by
    split
    · rw [show u + v = (u + v - n) + n by omega, Int.add_emod_right, Int.emod_eq_of_lt (by omega) (by omega)]
      omega
    · exact Int.emod_eq_of_lt (by omega) (by omega)
  rw [m a b x0 x1 y0 y1, m b c y0 y1 z0 z1]
  by_cases h1 : n ≤ a + b <;> by_cases h2 : n ≤ b + c <;> simp only [h1, h2, if_true, if_false] <;> split <;> split <;> omega
theorem plain_three (L : GrpG h V els put back zero) (cm : ∀ a ∈ els, ∀ b ∈ els, put a b = put b a) {up : List Int} {a : Nat → α} (ha : ∀ i, i < up.length → a i ∈ els) : ThreeG put up (plainG put zero up a) := fun x y z hx hy hz => by
  have hr : ∀ i ∈ List.range up.length, a i ∈ els := fun i hi => ha i (List.mem_range.mp hi)
  unfold plainG
  rw [sumG_add L cm hr, sumG_add L cm hr]
  exact sumG_congr fun i hi => eps_three hx hy hz (List.mem_range.mp hi)
theorem plain_sym (up x y : List Int) (a : Nat → α) : plainG put zero up a x y = plainG put zero up a y x := sumG_congr fun i _ => by
  unfold epsG
  rw [Int.add_comm]
theorem plain_in (L : GrpG h V els put back zero) {up : List Int} {a : Nat → α} (ha : ∀ i, i < up.length → a i ∈ els) (x y : List Int) : plainG put zero up a x y ∈ els := sumG_in L fun i hi => ha i (List.mem_range.mp hi)
/-- .. of a kind, changed by labels -/
def kindG {α : Type} (put : α → α → α) (back : α → α) (zero : α) (up : List Int) (a : Nat → α) (m : List Int → α) (x y : List Int) : α := put (ownG put back up m x y) (plainG put zero up a x y)
theorem kind_facts (L : GrpG h V els put back zero) (h64 : h ≤ 64) (cm : ∀ a ∈ els, ∀ b ∈ els, put a b = put b a) (l16 : els.length ≤ 16) {up : List Int} {a : Nat → α} {m : List Int → α} (u : OkU up) (ha : ∀ i, i < up.length → a i ∈ els) (hm : ∀ x, OkE up x → m x ∈ els) :
    OkCG els up (kindG put back zero up a m) ∧ ThreeG put up (kindG put back zero up a m) ∧ ∀ x y, OkE up x → OkE up y → kindG put back zero up a m x y = kindG put back zero up a m y x := by
  have LL := L.low h64 cm l16
  have oi := fun {x y : List Int} (hx : OkE up x) (hy : OkE up y) => own_in LL u hm hx hy
  have pi := fun (x y : List Int) => plain_in L ha x y
  refine ⟨fun x y hx hy => L.putE _ (oi hx hy) _ (pi x y), fun x y z hx hy hz => ?_, fun x y hx hy => ?_⟩
  · have pxy := put_el u.g.ok hx.len hy.len
    have pyz := put_el u.g.ok hy.len hz.len
    unfold kindG
    rw [LL.ac4 (oi hx hy) (pi _ _) (oi pxy hz) (pi _ _), own_three LL u hm hx hy hz, plain_three L cm ha x y z hx hy hz, LL.ac4 (oi hy hz) (oi hx pyz) (pi _ _) (pi _ _)]
  · unfold kindG
    rw [own_sym LL hm hx hy, plain_sym]
end
section
variable {α : Type} [DecidableEq α] {h : Nat} {V : α → D} {Q : α → NestedKey} {els : List α} {put : α → α → α} {back : α → α} {zero : α} {GD : D}
theorem zeroL_ok (L : GrpG h V els put back zero) (h64 : h ≤ 64) (al : AllL2 V els GD) (pl : PutL2 V els put GD) : d_q_zero [GD] = .ok (V zero) := by
  unfold AllL2 at al
  have eqV := L.eqV h64
  have fi : ∀ s1, q_zero_c1 [.sh GD, s1] (els.map V) = .ok ((els.filter fun a => decide (put a a = a)).map V) := fun s1 => by
    unfold q_zero_c1
    refine lcD_gfilter V V (fun a => decide (put a a = a)) fun a ha => ⟨_, rfl, ?_, fun _ => rfl⟩
    have p := pl a ha a ha
    have e := eqV (put a a) a
    generalize V (put a a) = B at *
    generalize V a = A at *
    simp [wipeR, p, e]
  have fo : ixD (.lst ((els.filter fun a => decide (put a a = a)).map V)) (.int 0) = .ok (V zero) := first_only L.zeroE (decide_eq_true (L.pz _ L.zeroE)) fun a ha e => (L.self ha).mp (of_decide_eq_true e)
  have ln : ((els.filter fun a => decide (put a a = a)).map V).length ≤ lim := by
    have := List.length_filter_le (fun a => decide (put a a = a)) els
    have := L.len
    rw [List.length_map]
    unfold lim
    omega
  have it : itemsD (.lst (els.map V)) = .ok (els.map V) := rfl
  refine runD_rt rfl ?_
  simp only [startD, N_q_zero, List.length_cons, List.length_nil, List.map_cons, List.map_nil, Nat.reduceAdd, Nat.reduceSub, Nat.zero_add, List.replicate, List.cons_append, List.nil_append]
  generalize (els.filter fun a => decide (put a a = a)).map V = FL at *
  generalize D.lst (els.map V) = EL at *
  generalize els.map V = EE at *
  generalize V zero = Z at *
  simp [-ixD_lst, e_q_zero, al, it, fi, ln, fo]
theorem backsL_turn (L : GrpG h V els put back zero) (h64 : h ≤ 64) (K : KeyE V Q) (pl : PutL2 V els put GD) {x : α} (hx : x ∈ els) {M : List (α × α)} (hM : M.length < 1000) (s3 s4 : Slot) :
    ∃ s4', q_backs_l2 (V x) [.sh GD, .sh (V zero), .ow .flat (dicA V V M), s3, s4] = .nx [.sh GD, .sh (V zero), .ow .flat (dicA V V (setA M x (back x))), .sh (V x), s4'] := by
  have neV := L.neV h64
  obtain ⟨m, hm, o⟩ := L.ord_ex hx
  have l144 := L.len
  have o1 := o.one
  have pE := fun n => L.powE hx n
  have sd : setD (dicA V V M) (V x) (V (back x)) = .ok (dicA V V (setA M x (back x))) := setD_A (V := V) K M x (back x) (by unfold lim; omega)
  have fin : ∀ j, j + 1 = m ∨ (j = 1 ∧ m = 1) → powG put zero j x = back x := fun j hj => by
    rcases hj with hj | ⟨rfl, hm1⟩
    · subst hj
      exact L.back_of hx (pE j) o.z
    · subst hm1
      have e : x = zero := by rw [← L.pow_one hx]; exact o.z
      rw [L.pow_one hx, e, L.back_zero]
  obtain ⟨r', loop, j, hj, rfl⟩ := loopD_down (c := q_backs_w1c) (b := q_backs_w1) (fun k r => ∃ j : Nat, j + k = max 2 m ∧ 1 ≤ j ∧ (j + 1 ≤ m ∨ j = 1) ∧ r = [.sh GD, .sh (V zero), .ow .flat (dicA V V M), .sh (V x), .sh (V (powG put zero j x))])
    (fun r => ∃ j, (j + 1 = m ∨ (j = 1 ∧ m = 1)) ∧ r = [.sh GD, .sh (V zero), .ow .flat (dicA V V M), .sh (V x), .sh (V (powG put zero j x))]) (by
    rintro k r ⟨j, hj, j1, j2, rfl⟩
    have p := pl _ (pE j) _ hx
    have ne1 := neV (powG put zero (j + 1) x) zero
    have ne2 := neV x zero
    by_cases e : j + 1 = m
    · left
      have z : powG put zero (j + 1) x = zero := by rw [e]; exact o.z
      rw [decide_eq_true z] at ne1
      refine ⟨?_, j, .inl e, rfl⟩
      have p : d_q_put [GD, V (powG put zero j x), V x] = .ok (V (powG put zero (j + 1) x)) := p
      generalize V (powG put zero (j + 1) x) = B at *
      generalize V (powG put zero j x) = A at *
      generalize V x = X at *
      generalize V zero = Z at *
      generalize dicA V V M = DM at *
      simp [q_backs_w1c, p, ne1]
    · by_cases e1 : m = 1
      · left
        have hj1 : j = 1 := by omega
        subst hj1
        have xz : x = zero := by rw [← L.pow_one hx]; have := o.z; rw [e1] at this; exact this
        rw [decide_eq_true xz] at ne2
        have ne1' : neD (V (powG put zero (1 + 1) x)) (V zero) = .ok (.bl (!decide (powG put zero (1 + 1) x = zero))) := ne1
        refine ⟨?_, 1, .inr ⟨rfl, e1⟩, rfl⟩
        have p : d_q_put [GD, V (powG put zero 1 x), V x] = .ok (V (powG put zero (1 + 1) x)) := p
        generalize decide (powG put zero (1 + 1) x = zero) = bb at *
        generalize V (powG put zero (1 + 1) x) = B at *
        generalize V (powG put zero 1 x) = A at *
        generalize V x = X at *
        generalize V zero = Z at *
        generalize dicA V V M = DM at *
        cases bb <;> simp [q_backs_w1c, p, ne1, ne2]
      · right
        have hlt : j + 1 < m := by omega
        have nz := o.le (j + 1) (by omega) hlt
        have xz : x ≠ zero := fun e => o.le 1 (Nat.le_refl _) (by omega) (by rw [L.pow_one hx]; exact e)
        rw [decide_eq_false nz] at ne1
        rw [decide_eq_false xz] at ne2
        have p : d_q_put [GD, V (powG put zero j x), V x] = .ok (V (powG put zero (j + 1) x)) := p
        refine ⟨k - 1, [.sh GD, .sh (V zero), .ow .flat (dicA V V M), .sh (V x), .sh (V (powG put zero (j + 1) x))], by omega, ?_, ?_, j + 1, by omega, by omega, by omega, rfl⟩
        · generalize V (powG put zero (j + 1) x) = B at *
          generalize V (powG put zero j x) = A at *
          generalize V x = X at *
          generalize V zero = Z at *
          generalize dicA V V M = DM at *
          simp [q_backs_w1c, p, ne1, ne2]
        · generalize V (powG put zero (j + 1) x) = B at *
          generalize V (powG put zero j x) = A at *
          generalize V x = X at *
          generalize V zero = Z at *
          generalize dicA V V M = DM at *
          simp [q_backs_w1, p]) (k := max 2 m - 1) (r := [.sh GD, .sh (V zero), .ow .flat (dicA V V M), .sh (V x), .sh (V x)]) ⟨1, by omega, Nat.le_refl _, .inr rfl, by rw [L.pow_one hx]⟩ (by omega)
  refine ⟨.sh (V (back x)), ?_⟩
  rw [fin j hj] at loop
  generalize dicA V V (setA M x (back x)) = D2 at *
  generalize dicA V V M = DM at *
  generalize V (back x) = B at *
  generalize V x = X at *
  generalize V zero = Z at *
  simp [q_backs_l2, loop, setG, ownF, sd]
theorem backsL_ok (L : GrpG h V els put back zero) (h64 : h ≤ 64) (K : KeyE V Q) (al : AllL2 V els GD) (pl : PutL2 V els put GD) : d_q_backs [GD] = .ok (backsD V els back) := by
  have z := zeroL_ok L h64 al pl
  unfold AllL2 at al
  have l144 := L.len
  obtain ⟨r', lp, s3, s4, e⟩ := fillRule (N := 144) (f := q_backs_l2) V (fun x : α => x) back (fun M r => ∃ s3 s4, r = [.sh GD, .sh (V zero), .ow .flat (dicA V V M), s3, s4]) (X := els) (L := []) (r := [.sh GD, .sh (V zero), .ow .flat (dicA V V []), .un, .un]) (by simpa using l144) (by simpa using L.nd) (by simp)
    (fun M hM x hx _ r ⟨s3, s4, e⟩ => by
      subst e
      obtain ⟨s4', q⟩ := backsL_turn L h64 K pl hx (M := M) (by omega) s3 s4
      exact ⟨_, q, _, _, rfl⟩) ⟨_, _, rfl⟩
  subst e
  rw [List.nil_append] at lp
  have it : itemsD (.lst (els.map V)) = .ok (els.map V) := rfl
  rw [show (dicA V V ([] : List (α × α))) = .dic [] [] from rfl] at lp
  have ed : backsD V els back = dicA V V (els.map fun a => (a, back a)) := rfl
  rw [ed]
  first | refine runD_rt rfl ?_ | refine runO_rt rfl ?_
  simp only [startD, N_q_backs, List.length_cons, List.length_nil, List.map_cons, List.map_nil, Nat.reduceAdd, Nat.reduceSub, Nat.zero_add, List.replicate, List.cons_append, List.nil_append]
  generalize dicA V V (els.map fun a => (a, back a)) = DB at *
  generalize D.lst (els.map V) = EL at *
  generalize els.map V = EE at *
  generalize V zero = Z at *
  simp [e_q_backs, z, al, it, lp, frzAt, freeze, giveG]
end
theorem rng_ints (n : Nat) (h : n ≤ 1000) : rng1 [.int (n : Nat)] = .ok ((List.range n).map fun i : Nat => .int (i : Nat)) := by
  rw [rng1_ok (by omega) (by omega)]
  unfold rangeL
  simp
section
variable {α : Type} [DecidableEq α] {h : Nat} {V : α → D} {Q : α → NestedKey} {els : List α} {put : α → α → α} {back : α → α} {zero : α} {GD : D} {up ns : List Int} {a0 : Int}
def EL (V : α → D) (els : List α) (back : α → α) (GD : D) (up ns : List Int) (a0 : Int) (s6 s7 s8 s9 s10 s11 s12 s13 s14 : Slot) : Env := [.sh GD, .sh (tuI up), .sh (.scr ns), .sh (.int a0), .sh (.lst (els.map V)), .sh (backsD V els back), s6, s7, s8, s9, s10, s11, s12, s13, s14]
theorem pickL (hz : zero ∈ els) (l144 : els.length ≤ 144) (c : Int) : ∃ a ∈ els, modD (.int c) (.int (els.length : Nat)) = .ok (.int (c % (els.length : Nat))) ∧ ixD (.lst (els.map V)) (.int (c % (els.length : Nat))) = .ok (V a) := by
  have l0 : 0 < els.length := List.length_pos_of_mem hz
  obtain ⟨d, hd, e⟩ := ixD_pick (xs := els.map V) c ((els.length : Nat) : Int) (by simp) (by omega)
  obtain ⟨a, ha, rfl⟩ := List.mem_map.mp hd
  exact ⟨a, ha, modD_ok (i := c) (j := ((els.length : Nat) : Int)) (by omega), e⟩
/-- the carried elements -/
theorem carriedL (L : GrpG h V els put back zero) (u : OkU up) (hns : ns.length ≤ 63) (b0 : 0 ≤ a0) (b1 : a0 ≤ 900000) (s6 s7 s8 s9 s10 s11 s12 s14 : Slot) : ∃ a : Nat → α, (∀ i, i < up.length → a i ∈ els) ∧ ∀ s13, q_laid_c1 (EL V els back GD up ns a0 s6 s7 s8 s9 s10 s11 s12 s13 s14) ((List.range up.length).map fun i : Nat => .int (i : Nat)) = .ok ((List.range up.length).map fun i => V (a i)) := by
  have l7 := u.g.ok.len
  have le : lenD (.lst (els.map V)) = .ok (.int els.length) := by simp [lenD]
  have ex : ∀ i : Nat, ∃ v : α, i < up.length → v ∈ els ∧ ∃ c : Int, d_q_cell [.scr ns, .int (a0 + 3 * (i : Nat))] = .ok (.int c) ∧ modD (.int (c / 7)) (.int (els.length : Nat)) = .ok (.int (c / 7 % (els.length : Nat))) ∧ ixD (.lst (els.map V)) (.int (c / 7 % (els.length : Nat))) = .ok (V v) := fun i => by
    by_cases hi : i < up.length
    · obtain ⟨c, ec⟩ := q_cell_ok ns (a0 + 3 * (i : Nat)) (by omega) hns (by omega)
      obtain ⟨v, hv, e1, e2⟩ := pickL (V := V) L.zeroE L.len (c / 7)
      exact ⟨v, fun _ => ⟨hv, c, ec, e1, e2⟩⟩
    · exact ⟨zero, fun q => absurd q hi⟩
  obtain ⟨a, hex⟩ := Classical.axiomOfChoice ex
  clear ex
  refine ⟨a, fun i hi => (hex i hi).1, fun s13 => ?_⟩
  unfold q_laid_c1
  refine lcD_gmap (fun i : Nat => D.int (i : Nat)) (fun i => V (a i)) fun i hi => ⟨_, rfl, rfl, ?_⟩
  have hi := List.mem_range.mp hi
  obtain ⟨_, c, ec, e1, e2⟩ := hex i hi
  clear hex
  have mu : mulD (.int 3) (.int (i : Nat)) = .ok (.int (3 * (i : Nat))) := mulD_small (.inr ⟨by omega, by omega⟩)
  have ad : addD (.int a0) (.int (3 * (i : Nat))) = .ok (.int (a0 + 3 * (i : Nat))) := rfl
  have dv := divD_ok (i := c) (j := 7) (by omega) (by decide)
  unfold EL
  generalize V (a i) = A at *
  generalize D.lst (els.map V) = E at *
  generalize backsD V els back = B at *
  generalize ((els.length : Nat) : Int) = n at *
  generalize c / 7 = c7 at *
  generalize c7 % n = cn at *
  generalize a0 + 3 * ((i : Nat) : Int) = ai at *
  generalize 3 * ((i : Nat) : Int) = i3 at *
  generalize ((i : Nat) : Int) = ii at *
  simp [-ixD_lst, -lenD, wipeR, mu, ad, ec, dv, le, e1, e2]
/-- the labels -/
theorem marksL (L : GrpG h V els put back zero) (u : OkU up) (hns : ns.length ≤ 63) (b0 : 0 ≤ a0) (b1 : a0 ≤ 900000) (ze : d_q_zero [GD] = .ok (V zero)) (s6 s10 s11 s12 s13 s14 : Slot) : ∃ (m : List Int → α) (s8 s9 : Slot), (∀ x, OkE up x → m x ∈ els) ∧
    forD q_laid_l2 (enumL ((mems up).map tuI)) (EL V els back GD up ns a0 s6 (.ow .flat (.dic [] [])) .un .un s10 s11 s12 s13 s14) = .nx (EL V els back GD up ns a0 s6 (.ow .flat (dicA tuI V ((mems up).map fun x => (x, m x)))) s8 s9 s10 s11 s12 s13 s14) := by
  have l9 := u.mems_le
  have le : lenD (.lst (els.map V)) = .ok (.int els.length) := by simp [lenD]
  obtain ⟨c1, ec1⟩ := q_cell_ok ns (a0 + 1) (by omega) hns (by omega)
  have ad1 : addD (.int a0) (.int 1) = .ok (.int (a0 + 1)) := rfl
  have m3 := modD_ok (i := c1) (j := 3) (by omega)
  have gt : gtD (.int (c1 % 3)) (.int 0) = .ok (.bl (decide (c1 % 3 > 0))) := rfl
  obtain ⟨M, r', lp, ⟨s8, s9, e⟩, hk, hv⟩ := fillG (N := 9) (Q := fun (_ : List Int) (v : α) => v ∈ els) (f := q_laid_l2) (fun p : List Int × Nat => .tup [.int (p.2 : Nat), tuI p.1]) (·.1) (fun M r => ∃ s8 s9, r = EL V els back GD up ns a0 s6 (.ow .flat (dicA tuI V M)) s8 s9 s10 s11 s12 s13 s14)
    (X := (mems up).zipIdx) (L := []) (r := EL V els back GD up ns a0 s6 (.ow .flat (dicA tuI V [])) .un .un s10 s11 s12 s13 s14) (by simpa using l9) (by rw [zipIdx_fst]; exact mems_nodup up) (by simp)
    (fun M hM q hq _ r ⟨s8, s9, e⟩ => by
      subst e
      obtain ⟨h3, h4⟩ := mem_zipIdx_lt hq
      have sd : setD (dicA tuI V M) (tuI q.1) (V zero) = .ok (dicA tuI V (setA M q.1 zero)) := setD_A (V := V) keyE M q.1 zero (by unfold lim; omega)
      cases hb : decide (c1 % 3 > 0) with
      | false =>
        rw [hb] at gt
        refine ⟨zero, _, L.zeroE, ?_, .sh (.int (q.2 : Nat)), .sh (tuI q.1), rfl⟩
        unfold EL
        generalize dicA tuI V (setA M q.1 zero) = D2 at *
        generalize dicA tuI V M = D1 at *
        generalize D.lst (els.map V) = E at *
        generalize backsD V els back = B at *
        generalize c1 % 3 = c13 at *
        generalize a0 + 1 = a1 at *
        generalize V zero = Z at *
        simp [-ixD_lst, -lenD, -gtD_int, q_laid_l2, setG, ownF, ze, sd, ad1, ec1, m3, gt]
      | true =>
        rw [hb] at gt
        obtain ⟨c, ec⟩ := q_cell_ok ns (a0 + 20 + 3 * (q.2 : Nat)) (by omega) hns (by omega)
        obtain ⟨v, hv, e1, e2⟩ := pickL (V := V) L.zeroE L.len (c / 7)
        have mu : mulD (.int 3) (.int (q.2 : Nat)) = .ok (.int (3 * (q.2 : Nat))) := mulD_small (.inr ⟨by omega, by omega⟩)
        have ad2 : addD (.int a0) (.int 20) = .ok (.int (a0 + 20)) := rfl
        have ad3 : addD (.int (a0 + 20)) (.int (3 * (q.2 : Nat))) = .ok (.int (a0 + 20 + 3 * (q.2 : Nat))) := rfl
        have dv := divD_ok (i := c) (j := 7) (by omega) (by decide)
        have sl : (setA M q.1 zero).length ≤ M.length + 1 := by
          unfold setA
          split
          · rw [List.length_map]; omega
          · rw [List.length_append]; simp
        have sd2 : setD (dicA tuI V (setA M q.1 zero)) (tuI q.1) (V v) = .ok (dicA tuI V (setA M q.1 v)) := by
          have := setD_A (V := V) keyE (setA M q.1 zero) q.1 v (by unfold lim; omega)
          rwa [setA_twice] at this
        refine ⟨v, _, hv, ?_, .sh (.int (q.2 : Nat)), .sh (tuI q.1), rfl⟩
        unfold EL
        generalize dicA tuI V (setA M q.1 v) = D3 at *
        generalize dicA tuI V (setA M q.1 zero) = D2 at *
        generalize dicA tuI V M = D1 at *
        generalize D.lst (els.map V) = E at *
        generalize backsD V els back = B at *
        generalize a0 + 20 + 3 * ((q.2 : Nat) : Int) = a23 at *
        generalize a0 + 20 = a20 at *
        generalize 3 * ((q.2 : Nat) : Int) = q3 at *
        generalize ((q.2 : Nat) : Int) = qq at *
        generalize c1 % 3 = c13 at *
        generalize a0 + 1 = a1 at *
        generalize ((els.length : Nat) : Int) = n at *
        generalize c / 7 = c7 at *
        generalize c7 % n = cn at *
        generalize V zero = Z at *
        generalize V v = A at *
        simp [-ixD_lst, -lenD, -gtD_int, q_laid_l2, setG, ownF, ze, sd, ad1, ec1, m3, gt, mu, ad2, ad3, ec, dv, le, e1, e2, sd2]) ⟨_, _, rfl⟩
  subst e
  rw [List.nil_append] at lp
  have hk : M.map (·.1) = mems up := by rw [hk]; exact zipIdx_fst _
  have gn : (M.map (·.1)).Nodup := by rw [hk]; exact mems_nodup up
  have hm : ∀ x, x ∈ mems up → ∃ v, lookA M x = some v ∧ v ∈ els := fun x hx => by
    rw [← hk] at hx
    obtain ⟨p, hp, e⟩ := List.mem_map.mp hx
    have := lookA_mem gn (show (p.1, p.2) ∈ M from hp)
    rw [e] at this
    exact ⟨p.2, this, hv p hp⟩
  refine ⟨fun x => (lookA M x).getD zero, s8, s9, fun x hx => ?_, ?_⟩
  · obtain ⟨v, h1, h2⟩ := hm x (mem_mems.mpr hx)
    show (lookA M x).getD zero ∈ els
    rw [h1]
    exact h2
  · have e := byRule (L := M) (g := fun x => (lookA M x).getD zero) (fun p hp => by
      have := lookA_mem gn (show (p.1, p.2) ∈ M from hp)
      show p.2 = (lookA M p.1).getD zero
      rw [this]
      rfl)
    rw [show M.map (fun p => p.1) = mems up from hk] at e
    rw [← e]
    rw [show (dicA tuI V ([] : List (List Int × α))) = .dic [] [] from rfl] at lp
    rw [enumL_els]
    exact lp
/-- one sum of carried elements -/
theorem totalL (L : GrpG h V els put back zero) (u : OkU up) (pl : PutL2 V els put GD) {a : Nat → α} (ha : ∀ i, i < up.length → a i ∈ els) {x y : List Int} (hx : OkE up x) (hy : OkE up y) {t : α} (ht : t ∈ els) (s7 s8 s10 s13 s14 : Slot) : ∃ s13' s14', forD q_laid_l3 ((List.range up.length).map fun i : Nat => .tup [.int (i : Nat), .int (up.getD i 0)]) (EL V els back GD up ns a0 (.sh (.lst ((List.range up.length).map fun i => V (a i)))) s7 s8 (.sh (tuI x)) s10 (.sh (tuI y)) (.sh (V t)) s13 s14) =
    .nx (EL V els back GD up ns a0 (.sh (.lst ((List.range up.length).map fun i => V (a i)))) s7 s8 (.sh (tuI x)) s10 (.sh (tuI y)) (.sh (V (put t (plainG put zero up a x y)))) s13' s14') := by
  have hr : ∀ i ∈ List.range up.length, a i ∈ els := fun i hi => ha i (List.mem_range.mp hi)
  have fe : ∀ i : Nat, epsG up x y i = if (decide (up.getD i 0 ≤ x.getD i 0 + y.getD i 0)) = true then 1 else 0 := fun i => by
    unfold epsG
    by_cases q : up.getD i 0 ≤ x.getD i 0 + y.getD i 0 <;> simp [q]
  have key := fun (l : List Nat) (hl : ∀ i ∈ l, a i ∈ els) => sumG_fold L fe hl ht
  obtain ⟨r', lp, w, e, hw, s13', s14', er⟩ := forD_row (pre0 := List.range up.length) (f := q_laid_l3) (fun i : Nat => .tup [.int (i : Nat), .int (up.getD i 0)]) (fun done r => ∃ w, w = done.foldl (fun t i => if (decide (up.getD i 0 ≤ x.getD i 0 + y.getD i 0)) = true then put t (a i) else t) t ∧ w ∈ els ∧ ∃ s13 s14, r = EL V els back GD up ns a0 (.sh (.lst ((List.range up.length).map fun i => V (a i)))) s7 s8 (.sh (tuI x)) s10 (.sh (tuI y)) (.sh (V w)) s13 s14)
    (ds := List.range up.length) (pre := []) (r := EL V els back GD up ns a0 (.sh (.lst ((List.range up.length).map fun i => V (a i)))) s7 s8 (.sh (tuI x)) s10 (.sh (tuI y)) (.sh (V t)) s13 s14) (fun done i hd r ⟨w, e, hw, s13, s14, er⟩ => by
      subst er
      obtain ⟨rest, hrest⟩ := hd
      have hi : i < up.length := List.mem_range.mp (by rw [← hrest]; simp)
      have i1 := ixD_tI (xs := x) (i := i) (by rw [hx.len]; exact hi)
      have i2 := ixD_tI (xs := y) (i := i) (by rw [hy.len]; exact hi)
      have i3 : ixD (.lst ((List.range up.length).map fun i => V (a i))) (.int (i : Nat)) = .ok (V (a i)) := by
        rw [ixD_lst]
        unfold atI ixN
        rw [if_pos (by omega), if_pos (by simp; omega)]
        simp [hi]
      have ge : geD (.int (x.getD i 0 + y.getD i 0)) (.int (up.getD i 0)) = .ok (.bl (decide (up.getD i 0 ≤ x.getD i 0 + y.getD i 0))) := rfl
      have ad : addD (.int (x.getD i 0)) (.int (y.getD i 0)) = .ok (.int (x.getD i 0 + y.getD i 0)) := rfl
      have p := pl _ hw _ (ha i hi)
      cases hb : decide (up.getD i 0 ≤ x.getD i 0 + y.getD i 0) with
      | true =>
        rw [hb] at ge
        refine ⟨EL V els back GD up ns a0 (.sh (.lst ((List.range up.length).map fun i => V (a i)))) s7 s8 (.sh (tuI x)) s10 (.sh (tuI y)) (.sh (V (put w (a i)))) (.sh (.int (i : Nat))) (.sh (.int (up.getD i 0))), ?_, put w (a i), by rw [List.foldl_append, ← e]; simp only [List.foldl_cons, List.foldl_nil, hb, if_true], L.putE _ hw _ (ha i hi), _, _, rfl⟩
        unfold EL
        generalize D.lst ((List.range up.length).map fun i => V (a i)) = CL at *
        generalize D.lst (els.map V) = E at *
        generalize backsD V els back = B at *
        generalize V (put w (a i)) = A3 at *
        generalize V (a i) = A2 at *
        generalize V w = A1 at *
        generalize up.getD i 0 = n at *
        generalize x.getD i 0 + y.getD i 0 = xy at *
        generalize x.getD i 0 = xi at *
        generalize y.getD i 0 = yi at *
        generalize ((i : Nat) : Int) = ii at *
        generalize tuI x = X at *
        generalize tuI y = Y at *
        generalize tuI up = U at *
        simp [-ixD_tup, -geD_int, -addD_int, q_laid_l3, i1, i2, i3, ge, ad, p]
      | false =>
        rw [hb] at ge
        refine ⟨EL V els back GD up ns a0 (.sh (.lst ((List.range up.length).map fun i => V (a i)))) s7 s8 (.sh (tuI x)) s10 (.sh (tuI y)) (.sh (V w)) (.sh (.int (i : Nat))) (.sh (.int (up.getD i 0))), ?_, w, by rw [List.foldl_append, ← e]; simp only [List.foldl_cons, List.foldl_nil, hb, Bool.false_eq_true, if_false], hw, _, _, rfl⟩
        unfold EL
        generalize D.lst ((List.range up.length).map fun i => V (a i)) = CL at *
        generalize D.lst (els.map V) = E at *
        generalize backsD V els back = B at *
        generalize V w = A1 at *
        generalize up.getD i 0 = n at *
        generalize x.getD i 0 + y.getD i 0 = xy at *
        generalize x.getD i 0 = xi at *
        generalize y.getD i 0 = yi at *
        generalize ((i : Nat) : Int) = ii at *
        generalize tuI x = X at *
        generalize tuI y = Y at *
        generalize tuI up = U at *
        simp [-ixD_tup, -geD_int, -addD_int, q_laid_l3, i1, i2, ge, ad]) (by simp) ⟨t, rfl, ht, _, _, rfl⟩
  subst er
  rw [List.nil_append, key _ hr] at e
  subst e
  exact ⟨_, _, lp⟩
/-- a table's carries laid into a group -/
theorem laidL_ok (L : GrpG h V els put back zero) (h64 : h ≤ 64) (K : KeyE V Q) (u : OkU up) (hns : ns.length ≤ 63) (b0 : 0 ≤ a0) (b1 : a0 ≤ 900000) (al : AllL2 V els GD) (pl : PutL2 V els put GD) :
    ∃ (a : Nat → α) (m : List Int → α), (∀ i, i < up.length → a i ∈ els) ∧ (∀ x, OkE up x → m x ∈ els) ∧ d_q_laid [GD, tuI up, .scr ns, .int a0] = .ok (rdT V GD up (kindG put back zero up a m)) := by
  have ze := zeroL_ok L h64 al pl
  have bs := backsL_ok L h64 K al pl
  have me := q_elements_ok u.g.ok u.g.most u.g.prod
  have l7 := u.g.ok.len
  unfold AllL2 at al
  obtain ⟨a, ha, ca⟩ := carriedL (V := V) (back := back) (GD := GD) (up := up) (ns := ns) (a0 := a0) L u hns b0 b1 .un .un .un .un .un .un .un .un
  obtain ⟨m, s8, s9, hm, lpm⟩ := marksL (V := V) (back := back) (GD := GD) (up := up) (ns := ns) (a0 := a0) L u hns b0 b1 ze (.sh (.lst ((List.range up.length).map fun i => V (a i)))) .un .un .un .un .un
  refine ⟨a, m, ha, hm, ?_⟩
  have gm : ∀ x, OkE up x → ixD (dicA tuI V ((mems up).map fun x => (x, m x))) (tuI x) = .ok (V (m x)) := fun x hx => ixD_A (V := V) keyE _ x (lookA_map m (mem_mems.mpr hx))
  have gb : ∀ b ∈ els, ixD (backsD V els back) (V b) = .ok (V (back b)) := fun b hb => backs_get K hb
  have l2 := l_two
  obtain ⟨c, r', hc, lp, s9', s11', s12', s13', s14', er⟩ := gridFill (Q := fun p v => v = kindG put back zero up a m p.1 p.2) (outer := q_laid_l5) (inner := q_laid_l4)
    (fun M r => ∃ s9 s11 s12 s13 s14, r = EL V els back GD up ns a0 (.sh (.lst ((List.range up.length).map fun i => V (a i)))) (.ow .flat (dicA tuI V ((mems up).map fun x => (x, m x)))) s8 s9 (.ow .flat (dicA pkD V M)) s11 s12 s13 s14)
    (fun M x r => ∃ s11 s12 s13 s14, r = EL V els back GD up ns a0 (.sh (.lst ((List.range up.length).map fun i => V (a i)))) (.ow .flat (dicA tuI V ((mems up).map fun x => (x, m x)))) s8 (.sh (tuI x)) (.ow .flat (dicA pkD V M)) s11 s12 s13 s14)
    (r := EL V els back GD up ns a0 (.sh (.lst ((List.range up.length).map fun i => V (a i)))) (.ow .flat (dicA tuI V ((mems up).map fun x => (x, m x)))) s8 s9 (.ow .flat (dicA pkD V [])) .un .un .un .un) u zero
    (fun M hM x y hx hy r ⟨s11, s12, s13, s14, e⟩ => by
      subst e
      have hxy := put_el u.g.ok hx.len hy.len
      have q0 := q_plus_ok u.g.ok hx.len hy.len
      have g1 := gm x hx
      have g2 := gm y hy
      have g3 := gm _ hxy
      have hmx := hm x hx
      have hmy := hm y hy
      have hmz := hm _ hxy
      have g4 := gb _ hmz
      have p1 := pl _ hmx _ hmy
      have hs := L.putE _ hmx _ hmy
      have p2 := pl _ hs _ (L.backE _ hmz)
      have ho := L.putE _ hs _ (L.backE _ hmz)
      obtain ⟨t13, t14, tl⟩ := totalL (V := V) (back := back) (GD := GD) (up := up) (ns := ns) (a0 := a0) L u pl ha hx hy ho (.ow .flat (dicA tuI V ((mems up).map fun x => (x, m x)))) s8 (.ow .flat (dicA pkD V M)) s13 s14
      have tl : forD q_laid_l3 ((List.range up.length).map fun i : Nat => .tup [.int (i : Nat), .int (up.getD i 0)]) (EL V els back GD up ns a0 (.sh (.lst ((List.range up.length).map fun i => V (a i)))) (.ow .flat (dicA tuI V ((mems up).map fun x => (x, m x)))) s8 (.sh (tuI x)) (.ow .flat (dicA pkD V M)) (.sh (tuI y)) (.sh (V (put (put (m x) (m y)) (back (m (putV up x y)))))) s13 s14) =
        .nx (EL V els back GD up ns a0 (.sh (.lst ((List.range up.length).map fun i => V (a i)))) (.ow .flat (dicA tuI V ((mems up).map fun x => (x, m x)))) s8 (.sh (tuI x)) (.ow .flat (dicA pkD V M)) (.sh (tuI y)) (.sh (V (kindG put back zero up a m x y))) t13 t14) := tl
      have en := enum_ints up
      have sd : setD (dicA pkD V M) (.tup [tuI x, tuI y]) (V (kindG put back zero up a m x y)) = .ok (dicA pkD V (setA M (x, y) (kindG put back zero up a m x y))) := setD_A (V := V) keyP M (x, y) _ (by unfold lim; omega)
      refine ⟨_, EL V els back GD up ns a0 (.sh (.lst ((List.range up.length).map fun i => V (a i)))) (.ow .flat (dicA tuI V ((mems up).map fun x => (x, m x)))) s8 (.sh (tuI x)) (.ow .flat (dicA pkD V (setA M (x, y) (kindG put back zero up a m x y)))) (.sh (tuI y)) (.sh (V (kindG put back zero up a m x y))) t13 t14, rfl, ?_, _, _, _, _, rfl⟩
      unfold EL at tl ⊢
      generalize dicA pkD V (setA M (x, y) (kindG put back zero up a m x y)) = D2 at *
      generalize dicA pkD V M = D1 at *
      generalize dicA tuI V ((mems up).map fun x => (x, m x)) = MK at *
      generalize D.lst ((List.range up.length).map fun i => V (a i)) = CL at *
      generalize (List.range up.length).map (fun i : Nat => D.tup [.int (i : Nat), .int (up.getD i 0)]) = EN at *
      generalize D.lst (els.map V) = E at *
      generalize backsD V els back = B at *
      generalize V (kindG put back zero up a m x y) = KV at *
      generalize V (put (put (m x) (m y)) (back (m (putV up x y)))) = v1 at *
      generalize V (put (m x) (m y)) = v2 at *
      generalize V (back (m (putV up x y))) = v3 at *
      generalize V (m (putV up x y)) = v4 at *
      generalize V (m x) = v5 at *
      generalize V (m y) = v6 at *
      generalize tuI (putV up x y) = XY at *
      generalize tuI x = X at *
      generalize tuI y = Y at *
      generalize tuI up = U at *
      simp [q_laid_l4, setG, ownF, g1, g2, g3, g4, p1, p2, q0, en, tl, sd, l2])
    (fun M x hx r ⟨s9, s11, s12, s13, s14, e⟩ => by
      subst e
      refine ⟨EL V els back GD up ns a0 (.sh (.lst ((List.range up.length).map fun i => V (a i)))) (.ow .flat (dicA tuI V ((mems up).map fun x => (x, m x)))) s8 (.sh (tuI x)) (.ow .flat (dicA pkD V M)) s11 s12 s13 s14, ⟨_, _, _, _, rfl⟩, fun M' r2 e2 ⟨t11, t12, t13, t14, p2⟩ => ⟨r2, ?_, ?_⟩⟩
      · have it : itemsD (.lst ((mems up).map tuI)) = .ok ((mems up).map tuI) := rfl
        unfold EL at e2 ⊢
        generalize dicA pkD V M = D1 at *
        generalize dicA tuI V ((mems up).map fun x => (x, m x)) = MK at *
        generalize D.lst ((List.range up.length).map fun i => V (a i)) = CL at *
        generalize D.lst (els.map V) = E at *
        generalize backsD V els back = B at *
        generalize D.lst ((mems up).map tuI) = ML at *
        generalize (mems up).map tuI = MM at *
        generalize tuI x = X at *
        generalize tuI up = U at *
        simp [q_laid_l5, me, it, e2]
      · exact ⟨_, t11, t12, t13, t14, p2⟩) ⟨_, _, _, _, _, rfl⟩
  subst er
  have ec : dicA pkD V ((prs up).map fun p => (p, c p.1 p.2)) = cG V up (kindG put back zero up a m) := by
    show _ = dicA pkD V ((prs up).map fun p => (p, kindG put back zero up a m p.1 p.2))
    congr 1
    refine List.map_congr_left fun p hp => ?_
    obtain ⟨h1, h2⟩ := mem_prs.mp (show (p.1, p.2) ∈ prs up from hp)
    rw [hc p.1 p.2 (mem_mems.mp h1) (mem_mems.mp h2)]
  rw [ec] at lp
  rw [show (dicA pkD V ([] : List ((List Int × List Int) × α))) = .dic [] [] from rfl] at lp
  have ln : lenD (tuI up) = .ok (.int (up.length : Nat)) := by simp [lenD, tuI]
  have rg := rng_ints up.length (by omega)
  have cl := ca .un
  have hcl : ((List.range up.length).map fun i => V (a i)).length ≤ lim := by simp; unfold lim; omega
  have en : enumS [.lst ((mems up).map tuI)] = .ok (enumL ((mems up).map tuI)) := rfl
  have it : itemsD (.lst ((mems up).map tuI)) = .ok ((mems up).map tuI) := rfl
  have l3 : 3 ≤ lim := by decide
  first | refine runD_rt rfl ?_ | refine runO_rt rfl ?_
  simp only [startD, N_q_laid, List.length_cons, List.length_nil, List.map_cons, List.map_nil, Nat.reduceAdd, Nat.reduceSub, Nat.zero_add, List.replicate, List.cons_append, List.nil_append]
  show _ = Oc.rt (.tup [GD, tuI up, cG V up (kindG put back zero up a m)])
  unfold EL at lp lpm cl
  clear hc ec ca
  generalize cG V up (kindG put back zero up a m) = C at *
  generalize dicA tuI V ((mems up).map fun x => (x, m x)) = MK at *
  generalize (List.range up.length).map (fun i => V (a i)) = CV at *
  generalize (List.range up.length).map (fun i : Nat => D.int (i : Nat)) = RG at *
  generalize ((up.length : Nat) : Int) = n at *
  generalize D.lst (els.map V) = E at *
  generalize backsD V els back = B at *
  generalize hML : D.lst ((mems up).map tuI) = ML at *
  generalize enumL ((mems up).map tuI) = EN at *
  generalize (mems up).map tuI = MM at *
  generalize tuI up = U at *
  simp [-lenD, e_q_laid, al, bs, ln, rg, cl, hcl, shareAt, me, en, lpm, it, lp, frzAt, freeze, giveG, l3]
end
section
variable {α : Type} [DecidableEq α] {V : α → D} {els : List α} {put : α → α → α} {back : α → α} {zero : α} {G : D} {up : List Int} {c : List Int → List Int → α}
theorem break2T1 {h : Nat} (L : GrpG h V els put back zero) (h64 : h ≤ 64) (u : OkU up) : d_break_of_two [tabG V G up c] = .ok (orT (break2G up c)) := by
  have m := members_ok u.g.ok u.g.most u.g.prod
  have mm : mthD mt_members (gR up) = .ok (fun ds => d_Rounds_members (gR up :: ds)) := rfl
  have mc : mthD mt_carry (tabG V G up c) = .ok (fun ds => d_Table_carry (tabG V G up c :: ds)) := rfl
  have l2 := l_two
  have fu := tabG_upper (V := V) (G := G) (up := up) (c := c)
  have ca := fun {x y : List Int} (hx : OkE up x) (hy : OkE up y) => carryG_ok (V := V) (G := G) (c := c) hx hy
  generalize tabG V G up c = T at *
  have it : itemsD (.lst ((mems up).map tuI)) = .ok ((mems up).map tuI) := rfl
  have inner := fun (x : List Int) (hx : x ∈ mems up) (s3 : Slot) => forD_find (f := break_of_two_l1) tuI (fun r => ∃ s, r = [.sh T, .sh (.lst ((mems up).map tuI)), .sh (tuI x), s]) (fun y => (s2G c x y).map D.tup) (ds := mems up) (r := [.sh T, .sh (.lst ((mems up).map tuI)), .sh (tuI x), s3]) (fun y hy r ⟨s, e⟩ => by
      subst e
      have q1 := ca (mem_mems.mp hx) (mem_mems.mp hy)
      have q2 := ca (mem_mems.mp hy) (mem_mems.mp hx)
      have ne := L.neV h64 (c x y) (c y x)
      unfold s2G
      by_cases e : c x y = c y x
      · rw [if_pos e]
        rw [decide_eq_true e] at ne
        refine ⟨fun v h => (by cases h), fun _ => ⟨[.sh T, .sh (.lst ((mems up).map tuI)), .sh (tuI x), .sh (tuI y)], ?_, _, rfl⟩⟩
        generalize V (c x y) = v1 at *
        generalize V (c y x) = v2 at *
        generalize D.lst ((mems up).map tuI) = ML at *
        generalize tuI x = X at *
        generalize tuI y = Y at *
        simp [break_of_two_l1, mc, q1, q2, ne]
      · rw [if_neg e]
        rw [decide_eq_false e] at ne
        refine ⟨fun v h => ?_, fun h => (by cases h)⟩
        cases h
        generalize V (c x y) = v1 at *
        generalize V (c y x) = v2 at *
        generalize D.lst ((mems up).map tuI) = ML at *
        generalize tuI x = X at *
        generalize tuI y = Y at *
        simp [break_of_two_l1, mc, q1, q2, ne, l2]) ⟨_, rfl⟩
  have outer := forD_find (f := break_of_two_l2) tuI (fun r => ∃ s2 s3, r = [.sh T, .sh (.lst ((mems up).map tuI)), s2, s3]) (fun x => ((mems up).findSome? fun y => s2G c x y).map D.tup) (ds := mems up) (r := [.sh T, .sh (.lst ((mems up).map tuI)), .un, .un]) (fun x hx r ⟨s2, s3, e⟩ => by
    subst e
    obtain ⟨h1, h2⟩ := inner x hx s3
    rw [some_tup]
    generalize hML : D.lst ((mems up).map tuI) = ML at *
    generalize (mems up).map tuI = MM at *
    generalize tuI x = X at *
    refine ⟨fun v h => ?_, fun h => ?_⟩
    · have := h1 v h
      simp [break_of_two_l2, it, this]
    · obtain ⟨r', e, s, rfl⟩ := h2 h
      exact ⟨[.sh T, .sh ML, .sh X, s], by simp [break_of_two_l2, it, e], _, _, rfl⟩) ⟨_, _, rfl⟩
  refine runD_rt rfl ?_
  simp only [startD, N_break_of_two, List.length_cons, List.length_nil, List.map_cons, List.map_nil, Nat.reduceAdd, Nat.reduceSub, Nat.zero_add, List.replicate, List.cons_append, List.nil_append]
  rw [← some_tup] at outer
  have outer : (∀ v, (break2G up c).map D.tup = some v → _) ∧ ((break2G up c).map D.tup = none → _) := outer
  obtain ⟨o1, o2⟩ := orT_map (break2G up c)
  cases hb : (break2G up c).map D.tup with
  | some v =>
    have := outer.1 v hb
    rw [o1 v hb]
    generalize D.lst ((mems up).map tuI) = ML at *
    generalize (mems up).map tuI = MM at *
    generalize gR up = GU at *
    simp [e_break_of_two, fu, mm, m, it, this]
  | none =>
    obtain ⟨r', e, _⟩ := outer.2 hb
    rw [o2 hb]
    generalize D.lst ((mems up).map tuI) = ML at *
    generalize (mems up).map tuI = MM at *
    generalize gR up = GU at *
    simp [e_break_of_two, fu, mm, m, it, e]
theorem evenT1 {h : Nat} (L : GrpG h V els put back zero) (h64 : h ≤ 64) (u : OkU up) : EvenF1 (towG V G up c) (break2G up c).isNone := by
  refine ⟨fun ds => d_Tower_is_even (towG V G up c :: ds), rfl, ?_⟩
  have b := break2T1 (G := G) (c := c) L h64 u
  have ft := towG_table (V := V) (G := G) (up := up) (c := c)
  have nn : isN (orT (break2G up c)) .non = .ok (.bl (break2G up c).isNone) := by cases break2G up c <;> rfl
  refine runD_rt rfl ?_
  simp only [startD, N_Tower_is_even, List.length_cons, List.length_nil, List.map_cons, List.map_nil, Nat.reduceAdd, Nat.reduceSub, Nat.zero_add, List.replicate, List.cons_append, List.nil_append]
  generalize towG V G up c = TW at *
  generalize tabG V G up c = T at *
  generalize orT (break2G up c) = O at *
  generalize (break2G up c).isNone = bb at *
  simp [e_Tower_is_even, ft, b, nn]
end
theorem break2G_no {α : Type} [DecidableEq α] {up : List Int} {c : List Int → List Int → α} (h : ∀ x y, OkE up x → OkE up y → c x y = c y x) : break2G up c = none := by
  unfold break2G
  rw [List.findSome?_eq_none_iff]
  intro x hx
  rw [List.findSome?_eq_none_iff]
  intro y hy
  unfold s2G
  rw [if_pos (h x y (mem_mems.mp hx) (mem_mems.mp hy))]
theorem break3G_no {α : Type} [DecidableEq α] {put : α → α → α} {up : List Int} {c : List Int → List Int → α} (h : ThreeG put up c) : break3G put up c = none := by
  unfold break3G
  rw [List.findSome?_eq_none_iff]
  intro x hx
  rw [List.findSome?_eq_none_iff]
  intro y hy
  rw [List.findSome?_eq_none_iff]
  intro z hz
  unfold s3G
  rw [if_pos (h x y z (mem_mems.mp hx) (mem_mems.mp hy) (mem_mems.mp hz))]
def kPaF {α : Type} (Q : α → NestedKey) (p : α × List Int) : NestedKey := .tup [Q p.1, kI p.2]
theorem depth_kPa {α : Type} {Q : α → NestedKey} {n : Nat} (hn : 2 ≤ n) (d : ∀ a, (Q a).depth ≤ n) (p : α × List Int) : (kPaF Q p).depth ≤ n + 1 := by
  have d1 := d p.1
  have d2 := depth_kI p.2
  unfold kPaF
  rw [NestedKey.depth, NestedKey.depthAll, NestedKey.depthAll, NestedKey.depthAll]
  omega
theorem keyPaG {α : Type} {V : α → D} {Q : α → NestedKey} (K : KeyE V Q) (d : ∀ a, (Q a).depth ≤ 5) : KeyE (paG V) (kPaF Q) := ⟨fun p => by
  have e : keyOf (.tup [V p.1, tuI p.2]) = some (kPaF Q p) := by
    show (keyOf.keysOf [V p.1, tuI p.2]).map NestedKey.tup = _
    rw [keyOf.keysOf, K.of, keyOf.keysOf, keyE.of, keyOf.keysOf]
    rfl
  have d : (kPaF Q p).depth ≤ 8 := by
    have := depth_kPa (n := 5) (by omega) d p
    omega
  show keyT (.tup [V p.1, tuI p.2]) = _
  unfold keyT
  simp only [e, d, if_true], fun p q h => by
  unfold kPaF at h
  injection h with h
  injection h with h1 h
  injection h with h2 h
  exact Prod.ext (K.inj _ _ h1) (keyE.inj _ _ h2)⟩
theorem cG_has {α : Type} {V : α → D} {up : List Int} {c : List Int → List Int → α} {x y : List Int} (hx : OkE up x) (hy : OkE up y) : notInD (pkD (x, y)) (cG V up c) = .ok (.bl false) := by
  have hm : (x, y) ∈ prs up := mem_prs.mpr ⟨mem_mems.mpr hx, mem_mems.mpr hy⟩
  have := notInD_A (V := V) keyP ((prs up).map fun p => (p, c p.1 p.2)) (x, y)
  show notInD (pkD (x, y)) (dicA pkD V ((prs up).map fun p => (p, c p.1 p.2))) = _
  simpa [hasA_map, hm] using this
theorem allG_len {α : Type} (els : List α) (up : List Int) : (allG els up).length = els.length * (mems up).length := by unfold allG; simp [List.length_flatMap, sum_const]
/-- a group with an even law, whose elements are keys, too -/
structure Ev {α : Type} [DecidableEq α] (h n : Nat) (V : α → D) (Q : α → NestedKey) (els : List α) (put : α → α → α) (back : α → α) (zero : α) : Prop where
  L : GrpG h V els put back zero
  cm : ∀ a ∈ els, ∀ b ∈ els, put a b = put b a
  K : KeyE V Q
  d : ∀ a, (Q a).depth ≤ n
  h64 : h ≤ 20
  n2 : 2 ≤ n
theorem evR {lo : List Int} (g : OkG lo) : Ev 1 2 tuI kI (mems lo) (putV lo) (backV lo) (zeroV lo) := ⟨grpR g, commR, keyE, fun a => by rw [depth_kI]; omega, by omega, by omega⟩
section
variable {α : Type} [DecidableEq α] {h n : Nat} {V : α → D} {Q : α → NestedKey} {els : List α} {put : α → α → α} {back : α → α} {zero : α} {G GD : D} {up : List Int} {c : List Int → List Int → α}
theorem evT (E : Ev h n V Q els put back zero) (h64 : h ≤ 18) (n5 : n ≤ 5) (l16 : els.length ≤ 16) (u : OkU up) (hc : OkCG els up c) (th : ThreeG put up c) (sy : ∀ x y, OkE up x → OkE up y → c x y = c y x) :
    Ev (h + 2) (n + 1) (paG V) (kPaF Q) (allG els up) (putGT put up c) (backGT put back up c) (zeroGT back up c) :=
  ⟨towGrp E.L E.cm l16 u hc th, towComm E.cm sy, keyPaG E.K fun a => Nat.le_trans (E.d a) n5, depth_kPa E.n2 E.d, by omega, by have := E.n2; omega⟩
end
/-- what the law's own functions tell of a group -/
structure Lw0 {α : Type} (V : α → D) (els : List α) (put : α → α → α) (GD G : D) : Prop where
  pl : PutL0 V els put GD
  al : AllL0 V els GD
  ml : MadeL0 GD G
theorem lwR0 {lo : List Int} (g : OkG lo) : Lw0 tuI (mems lo) (putV lo) (rdR lo) (gR lo) := ⟨putLR0 g, allLR0 g, madeLR0 g⟩
/-- what the law's own functions tell of a group -/
structure Lw1 {α : Type} (V : α → D) (els : List α) (put : α → α → α) (GD G : D) : Prop where
  pl : PutL1 V els put GD
  al : AllL1 V els GD
  ml : MadeL1 GD G
theorem lwR1 {lo : List Int} (g : OkG lo) : Lw1 tuI (mems lo) (putV lo) (rdR lo) (gR lo) := ⟨putLR1 g, allLR1 g, madeLR1 g⟩
/-- what the law's own functions tell of a group -/
structure Lw2 {α : Type} (V : α → D) (els : List α) (put : α → α → α) (GD G : D) : Prop where
  pl : PutL2 V els put GD
  al : AllL2 V els GD
  ml : MadeL2 GD G
theorem lwR2 {lo : List Int} (g : OkG lo) : Lw2 tuI (mems lo) (putV lo) (rdR lo) (gR lo) := ⟨putLR2 g, allLR2 g, madeLR2 g⟩
section
variable {α : Type} [DecidableEq α] {h n : Nat} {V : α → D} {Q : α → NestedKey} {els : List α} {put : α → α → α} {back : α → α} {zero : α} {G GD : D} {up : List Int} {c : List Int → List Int → α}
theorem lwT1 (L : GrpG h V els put back zero) (l16 : els.length ≤ 16) (u : OkU up) (hc : OkCG els up c) (f : Lw0 V els put GD G) (ap : apartK ((prs up).map pkD) = true) (ti : d_Table_init [G, gR up, cG V up c] = .ok (tabG V G up c)) (wi : d_Tower_init [tabG V G up c] = .ok (towG V G up c)) :
    Lw1 (paG V) (allG els up) (putGT put up c) (rdT V GD up c) (towG V G up c) := by
  have l144 : (allG els up).length ≤ 144 := by
    rw [allG_len]
    exact Nat.mul_le_mul l16 u.mems_le
  exact ⟨putLT1 L.putE u hc f.pl, allLT1 l144 u f.al, madeLT1 (h := h) (back := back) (zero := zero) u ap f.ml ti wi⟩
end
section
variable {α : Type} [DecidableEq α] {h n : Nat} {V : α → D} {Q : α → NestedKey} {els : List α} {put : α → α → α} {back : α → α} {zero : α} {G GD : D} {up : List Int} {c : List Int → List Int → α}
theorem lwT2 (L : GrpG h V els put back zero) (l16 : els.length ≤ 16) (u : OkU up) (hc : OkCG els up c) (f : Lw1 V els put GD G) (ap : apartK ((prs up).map pkD) = true) (ti : d_Table_init [G, gR up, cG V up c] = .ok (tabG V G up c)) (wi : d_Tower_init [tabG V G up c] = .ok (towG V G up c)) :
    Lw2 (paG V) (allG els up) (putGT put up c) (rdT V GD up c) (towG V G up c) := by
  have l144 : (allG els up).length ≤ 144 := by
    rw [allG_len]
    exact Nat.mul_le_mul l16 u.mems_le
  exact ⟨putLT2 L.putE u hc f.pl, allLT2 l144 u f.al, madeLT2 (h := h) (back := back) (zero := zero) u ap f.ml ti wi⟩
end
/-- what a table asks of its lower group -/
structure Hi {α : Type} (V : α → D) (els : List α) (put : α → α → α) (G : D) : Prop where
  size : SizeF (els.length : Nat) G
  even : EvenF G
  has : HasF V els G
  add : AddF V els put G
theorem hiR {lo : List Int} (g : OkG lo) : Hi tuI (mems lo) (putV lo) (gR lo) where
  size := by
    have := mems_len (rs := lo) fun n hn => by have := g.ok.two n hn; omega
    rw [this]
    exact ⟨_, rfl, size_ok g⟩
  even := ⟨_, rfl, even_ok lo⟩
  has := ⟨_, rfl, fun a ha => has_ok (mem_mems.mp ha)⟩
  add := ⟨_, rfl, fun a ha b hb => added_ok g.ok (mem_mems.mp ha) (mem_mems.mp hb)⟩
section
variable {α : Type} [DecidableEq α] {h n : Nat} {V : α → D} {Q : α → NestedKey} {els : List α} {put : α → α → α} {back : α → α} {zero : α} {G GD : D} {up ns : List Int} {c : List Int → List Int → α} {a0 : Int}
theorem hiT (L : GrpG h V els put back zero) (h64 : h ≤ 64) (u : OkU up) (sy : ∀ x y, OkE up x → OkE up y → c x y = c y x) (has : HasF1 (paG V) (allG els up) (towG V G up c)) (put' : PutF1 (paG V) (allG els up) (putGT put up c) (towG V G up c)) (mem : MemF1 (paG V) (allG els up) (towG V G up c)) : Hi (paG V) (allG els up) (putGT put up c) (towG V G up c) where
  size := sizeT1 mem
  even := by
    have := evenT1 (G := G) (c := c) L h64 u
    rw [break2G_no sy] at this
    exact this
  has := has
  add := addT1 has put'
end
section
variable {α : Type} [DecidableEq α] {h n : Nat} {V : α → D} {Q : α → NestedKey} {els : List α} {put : α → α → α} {back : α → α} {zero : α} {G GD : D} {up ns : List Int} {c : List Int → List Int → α} {a0 : Int}
/-- a floor more -/
theorem floorL (E : Ev h n V Q els put back zero) (n5 : n ≤ 5) (l16 : els.length ≤ 16) (hi : Hi V els put G) (u : OkU up) (hns : ns.length ≤ 63) (b0 : 0 ≤ a0) (b1 : a0 ≤ 900000) (al : AllL2 V els GD) (pl : PutL2 V els put GD) :
    ∃ c : List Int → List Int → α, OkCG els up c ∧ ThreeG put up c ∧ (∀ x y, OkE up x → OkE up y → c x y = c y x) ∧ d_q_laid [GD, tuI up, .scr ns, .int a0] = .ok (rdT V GD up c) ∧ d_Table_init [G, gR up, cG V up c] = .ok (tabG V G up c) ∧ d_Tower_init [tabG V G up c] = .ok (towG V G up c) := by
  have h64 : h ≤ 64 := by have := E.h64; omega
  obtain ⟨a, m, ha, hm, e⟩ := laidL_ok E.L h64 E.K u hns b0 b1 al pl
  obtain ⟨oc, th, sy⟩ := kind_facts E.L h64 E.cm l16 u ha hm
  have LL := E.L.low h64 E.cm l16
  refine ⟨_, oc, th, sy, e, ?_, towG_ok LL u hi.add oc (break3G_no th)⟩
  exact tableG_ok hi.size (by omega) hi.even u hi.has _ fun x y hx hy => ⟨cG_has hx hy, getG _ hx hy, oc x y hx hy⟩
end
theorem notIn_list {d : D} {xs : List D} (hd : okQ 63 d = true) (hx : xs.all (okQ 63) = true) : notInD d (.lst xs) = .ok (.bl (!xs.any fun z => eqQ z d)) := by
  obtain ⟨p, p1, p2, p3⟩ := toPy_ok 63 d hd
  obtain ⟨q, q1, q2, q3⟩ := toPy_ok 64 (.lst xs) hx
  obtain ⟨ps, rfl, hps⟩ : ∃ ps, q = .list ps ∧ toPy.toPys xs = some ps := by
    rw [toPy] at q1
    obtain ⟨ps, h1, h2⟩ := Option.map_eq_some_iff.mp q1
    exact ⟨ps, h2.symm, h1⟩
  have s1 : SeqAt.shaped p = true := by unfold SeqAt.shaped; rw [p2]; simp; omega
  have s2 : SeqAt.shaped (.list ps) = true := by unfold SeqAt.shaped; rw [q2]; simpa using q3
  have an : ∀ (ys : List D) (qs : List PyData), ys.all (okQ 63) = true → toPy.toPys ys = some qs → (qs.any fun z => PyData.eqv z p) = ys.any fun z => eqQ z d := fun ys => by
    induction ys with
    | nil =>
      intro qs _ h
      rw [toPy.toPys] at h
      cases h
      rfl
    | cons y ys ih =>
      intro qs ho h
      rw [List.all_cons, Bool.and_eq_true] at ho
      obtain ⟨r, r1, _, _⟩ := toPy_ok 63 y ho.1
      rw [toPy.toPys, r1] at h
      cases ht : toPy.toPys ys with
      | none => rw [ht] at h; cases h
      | some rs =>
        rw [ht] at h
        cases h
        rw [List.any_cons, List.any_cons, ih rs ho.2 ht, eqv_eqQ 63 y d r p ho.1 r1 p1]
  show notInS d (.lst xs) = _
  unfold notInS
  rw [p1, q1]
  simp only [s1, s2, and_self, if_true, an xs ps hx hps]
theorem last_at {xs : List D} (h : xs ≠ []) : ixD (.lst xs) (.int (-1)) = .ok (xs.getLast h) := by
  have hl := List.length_pos_iff.mpr h
  have z : atI xs (-1) = some (xs.getLast h) := by
    unfold atI ixN
    rw [if_neg (by omega), if_pos (by omega)]
    show xs[((-1 : Int) + ((xs.length : Nat) : Int)).toNat]? = _
    have e : ((-1 : Int) + ((xs.length : Nat) : Int)).toNat = xs.length - 1 := by omega
    rw [e, List.getElem?_eq_getElem (by omega), List.getLast_eq_getElem]
  rw [ixD_lst, z]
theorem sortedVD_is (ks vs : List D) : sortedVD (.dic ks vs) = sortedX (.lst vs) := rfl
section
variable {α : Type} [DecidableEq α] {V : α → D} {els : List α} {put : α → α → α} {back : α → α} {zero : α} {G : D} {up : List Int} {c : List Int → List Int → α}
/-- an element of the lower group, as it lies in the tower -/
theorem lyingT2 (u : OkU up) (bE : ∀ a ∈ els, back a ∈ els) (hc : OkCG els up c) (hf : HasF1 V els G) (pf : PutF1 V els put G) (bf : BackedF1 V els back G) {a : α} (ha : a ∈ els) : d_Tower_lying_2 [towG V G up c, V a] = .ok (paG V (put a (back (c (zeroV up) (zeroV up))), zeroV up)) := by
  obtain ⟨f, f1, f2⟩ := hf
  obtain ⟨g, g1, g2⟩ := pf
  obtain ⟨b, b1, b2⟩ := bf
  have z := zero_el u.g.ok
  have hg := hc _ _ z z
  have h1 := f2 a ha
  have h2 := b2 _ hg
  have h3 := g2 a ha _ (bE _ hg)
  have nz := nought_ok u.g.ok
  have ft := towG_table (V := V) (G := G) (up := up) (c := c)
  have fg := towG_ground (V := V) (G := G) (up := up) (c := c)
  have fl := tabG_lower (V := V) (G := G) (up := up) (c := c)
  have fu := tabG_upper (V := V) (G := G) (up := up) (c := c)
  have l2 := l_two
  have mu : mthD mt_nought_T (gR up) = .ok (fun ds => d_Rounds_nought (gR up :: ds)) := rfl
  refine runD_rt rfl ?_
  simp only [startD, N_Tower_lying, List.length_cons, List.length_nil, List.map_cons, List.map_nil, Nat.reduceAdd, Nat.reduceSub, Nat.zero_add, List.replicate, List.cons_append, List.nil_append]
  show _ = Oc.rt (.tup [V (put a (back (c (zeroV up) (zeroV up)))), tuI (zeroV up)])
  generalize towG V G up c = TW at *
  generalize tabG V G up c = T at *
  generalize V (put a (back (c (zeroV up) (zeroV up)))) = v1 at *
  generalize V (back (c (zeroV up) (zeroV up))) = v2 at *
  generalize V (c (zeroV up) (zeroV up)) = v3 at *
  generalize tuI (zeroV up) = w at *
  generalize V a = A at *
  generalize gR up = GU at *
  simp [e_Tower_lying_2, ft, fg, fl, fu, f1, h1, b1, h2, g1, h3, mu, nz, l2]
theorem lyingN2 {d : D} (hf : ∃ f, mthD mt_has_T G = .ok f ∧ f [d] = .ok (.bl false)) : d_Tower_lying_2 [towG V G up c, d] = .er (.exc 12 []) := by
  obtain ⟨f, f1, h⟩ := hf
  have ft := towG_table (V := V) (G := G) (up := up) (c := c)
  have fl := tabG_lower (V := V) (G := G) (up := up) (c := c)
  refine runD_er (r := [.sh (towG V G up c), .sh d, .sh G]) rfl ?_
  simp only [startD, N_Tower_lying, List.length_cons, List.length_nil, List.map_cons, List.map_nil, Nat.reduceAdd, Nat.reduceSub, Nat.zero_add, List.replicate, List.cons_append, List.nil_append]
  generalize towG V G up c = TW at *
  generalize tabG V G up c = T at *
  simp [e_Tower_lying_2, ft, fl, f1, h]
/-- what lies over an element of the upper group -/
theorem overT2 (l144 : els.length ≤ 144) (fm : MemF1 V els G) {x : List Int} (hx : OkE up x) : d_Tower_over_2 [towG V G up c, tuI x] = .ok (.lst (els.map fun a => paG V (a, x))) := by
  obtain ⟨f, f1, f2⟩ := fm
  have h1 := has_ok hx
  have ft := towG_table (V := V) (G := G) (up := up) (c := c)
  have fl := tabG_lower (V := V) (G := G) (up := up) (c := c)
  have fu := tabG_upper (V := V) (G := G) (up := up) (c := c)
  have l2 := l_two
  have mu : mthD mt_has_T (gR up) = .ok (fun ds => d_Rounds_has (gR up :: ds)) := rfl
  have it : itemsD (.lst (els.map V)) = .ok (els.map V) := rfl
  have cc : Tower_over_2_c1 [.sh (towG V G up c), .sh (tuI x), .un] (els.map V) = .ok (els.map fun a => paG V (a, x)) := by
    unfold Tower_over_2_c1
    refine lcD_gmap V (fun a => paG V (a, x)) fun a _ => ⟨_, rfl, rfl, ?_⟩
    show _ = Res.ok (D.tup [V a, tuI x])
    generalize towG V G up c = TW at *
    generalize V a = A at *
    generalize tuI x = X at *
    simp [wipeR, l2]
  have hl : (els.map fun a => paG V (a, x)).length ≤ lim := by rw [List.length_map]; unfold lim; omega
  first | refine runO_rt rfl ?_ | refine runD_rt rfl ?_
  simp only [startD, N_Tower_over, List.length_cons, List.length_nil, List.map_cons, List.map_nil, Nat.reduceAdd, Nat.reduceSub, Nat.zero_add, List.replicate, List.cons_append, List.nil_append]
  generalize (els.map fun a => paG V (a, x)) = PL at *
  generalize D.lst (els.map V) = EL at *
  generalize els.map V = EE at *
  generalize towG V G up c = TW at *
  generalize tabG V G up c = T at *
  generalize gR up = GU at *
  generalize tuI x = X at *
  simp [e_Tower_over_2, ft, fl, fu, mu, h1, f1, f2, it, cc, hl]
theorem overN2 {d : D} (hf : d_Rounds_has [gR up, d] = .ok (.bl false)) : d_Tower_over_2 [towG V G up c, d] = .er (.exc 12 []) := by
  have ft := towG_table (V := V) (G := G) (up := up) (c := c)
  have fu := tabG_upper (V := V) (G := G) (up := up) (c := c)
  have mu : mthD mt_has_T (gR up) = .ok (fun ds => d_Rounds_has (gR up :: ds)) := rfl
  first | refine runO_er (r := [.sh (towG V G up c), .sh d, .un]) rfl ?_ | refine runD_er (r := [.sh (towG V G up c), .sh d, .un]) rfl ?_
  simp only [startD, N_Tower_over, List.length_cons, List.length_nil, List.map_cons, List.map_nil, Nat.reduceAdd, Nat.reduceSub, Nat.zero_add, List.replicate, List.cons_append, List.nil_append]
  generalize towG V G up c = TW at *
  generalize tabG V G up c = T at *
  generalize gR up = GU at *
  simp [e_Tower_over_2, ft, fu, mu, hf]
end
theorem perm_eqB {α : Type} {le : α → α → Prop} : ∀ {xs ys : List α}, (∀ a ∈ xs, ∀ b ∈ xs, le a b → le b a → a = b) → xs.Pairwise le → ys.Pairwise le → xs.Perm ys → xs = ys
  | [], ys, _, _, _, p => (List.nil_perm.mp p).symm
  | x :: xs, [], _, _, _, p => absurd (List.perm_nil.mp p) (by simp)
  | x :: xs, y :: ys, h, h1, h2, p => by
    obtain ⟨a1, a2⟩ := List.pairwise_cons.mp h1
    obtain ⟨b1, b2⟩ := List.pairwise_cons.mp h2
    have e : x = y := by
      rcases List.mem_cons.mp (p.mem_iff.mp (List.mem_cons_self (a := x) (l := xs))) with e | hx
      · exact e
      · rcases List.mem_cons.mp (p.mem_iff.mpr (List.mem_cons_self (a := y) (l := ys))) with e | hy
        · exact e.symm
        · exact h x List.mem_cons_self y (List.mem_cons_of_mem _ hy) (a1 y hy) (b1 x hx)
    subst e
    rw [perm_eqB (fun a ha b hb => h a (List.mem_cons_of_mem _ ha) b (List.mem_cons_of_mem _ hb)) a2 b2 (List.perm_cons x |>.mp p)]
theorem zip_mapsB {α β γ : Type} (f : α → β) (g : α → γ) : ∀ L : List α, (L.map f).zip (L.map g) = L.map fun a => (f a, g a)
  | [] => rfl
  | a :: L => by rw [List.map_cons, List.map_cons, List.zip_cons_cons, zip_mapsB f g L, List.map_cons]
theorem toPys_mapB {α : Type} {put : α → D} {enc : α → PyData} (h : ∀ a, toPy (put a) = some (enc a)) : ∀ L : List α, toPy.toPys (L.map put) = some (L.map enc)
  | [] => rfl
  | k :: L => by rw [List.map_cons, toPy.toPys, h k, toPys_mapB h L]; rfl
/-- what a sorted list is: the given order of its own things -/
theorem sorted_data {α : Type} {put : α → D} {enc : α → PyData} (h : ∀ a, toPy (put a) = some (enc a)) {K L : List α} (up : K.Pairwise (fun a b => PySem.W.dataLt (enc b) (enc a) = false ∧ PySem.W.dataLt (enc a) (enc b) = true))
    (al : K.all (fun a => tupB (enc a) && decide ((enc a).depth ≤ 50) && K.all fun b => PySem.W.alike (enc a) (enc b)) = true) (p : L.Perm K) : sortedX (.lst (L.map put)) = .ok (.lst (K.map put)) := by
  have al' : ∀ a ∈ K, (tupB (enc a) = true ∧ (enc a).depth ≤ 50) ∧ ∀ b ∈ K, PySem.W.alike (enc a) (enc b) = true := fun a ha => by
    have := List.all_eq_true.mp al a ha
    rw [Bool.and_eq_true, Bool.and_eq_true] at this
    exact ⟨⟨this.1.1, of_decide_eq_true this.1.2⟩, fun b hb => List.all_eq_true.mp this.2 b hb⟩
  have sb : sortB (L.map enc) = true := by
    unfold sortB
    rw [Bool.and_eq_true, Bool.and_eq_true]
    refine ⟨List.all_eq_true.mpr fun d hd => List.all_eq_true.mpr fun d' hd' => ?_, List.all_eq_true.mpr fun d hd => ?_, List.all_eq_true.mpr fun d hd => ?_⟩
    · obtain ⟨a, ha, rfl⟩ := List.mem_map.mp hd
      obtain ⟨b, hb, rfl⟩ := List.mem_map.mp hd'
      exact (al' a (p.mem_iff.mp ha)).2 b (p.mem_iff.mp hb)
    · obtain ⟨a, ha, rfl⟩ := List.mem_map.mp hd
      exact (al' a (p.mem_iff.mp ha)).1.1
    · obtain ⟨a, ha, rfl⟩ := List.mem_map.mp hd
      exact decide_eq_true (al' a (p.mem_iff.mp ha)).1.2
  have ms : ((L.map fun a => (put a, enc a)).mergeSort (PySem.W.dataLe false (·.2))).map (·.1) = (L.mergeSort (PySem.W.dataLe false enc)).map put := by
    have := (List.map_mergeSort (f := fun a => (put a, enc a)) (r := PySem.W.dataLe false enc) (s := PySem.W.dataLe false (·.2)) (l := L) fun a _ b _ => rfl)
    rw [← this, List.map_map]
    rfl
  have to := PySem.W.sortLe_total (PyProof.Rows.listOrd PyProof.Rows.itemOrd) false (fun b => PySem.W.keyToks (enc b))
  have pw : (L.mergeSort (PySem.W.dataLe false enc)).Pairwise (fun a b => PySem.W.dataLe false enc a b = true) := List.pairwise_mergeSort (fun a b c h1 h2 => to.trans a b c h1 h2) (fun a b => by
    have := to.total a b
    rw [Bool.or_eq_true]
    exact this) L
  have pk : K.Pairwise (fun a b => PySem.W.dataLe false enc a b = true) := up.imp fun h => by
    show (!PySem.W.dataLt (enc _) (enc _)) = true
    rw [h.1]
    rfl
  have anti : ∀ a ∈ K, ∀ b ∈ K, PySem.W.dataLe false enc a b = true → PySem.W.dataLe false enc b a = true → a = b := fun a ha b hb h1 h2 => by
    obtain ⟨i, hi, rfl⟩ := List.mem_iff_getElem.mp ha
    obtain ⟨j, hj, rfl⟩ := List.mem_iff_getElem.mp hb
    have h1 : (!PySem.W.dataLt (enc K[j]) (enc K[i])) = true := h1
    have h2 : (!PySem.W.dataLt (enc K[i]) (enc K[j])) = true := h2
    rcases Nat.lt_trichotomy i j with h | h | h
    · have := (List.pairwise_iff_getElem.mp up i j hi hj h).2
      rw [this] at h2
      cases h2
    · subst h
      rfl
    · have := (List.pairwise_iff_getElem.mp up j i hj hi h).2
      rw [this] at h1
      cases h1
  have e : L.mergeSort (PySem.W.dataLe false enc) = K := (perm_eqB anti pk pw ((List.mergeSort_perm L _).trans p).symm).symm
  unfold sortedX
  simp only [toPys_mapB h, sb, if_true, zip_mapsB]
  rw [ms, e]
theorem toPy_tuIB (x : List Int) : toPy (tuI x) = some (.tuple (x.map .int)) := by
  have : ∀ x : List Int, toPy.toPys (x.map D.int) = some (x.map .int) := fun x => by
    induction x with
    | nil => rfl
    | cons a x ih => rw [List.map_cons, toPy.toPys, ih]; rfl
  show (toPy.toPys (x.map D.int)).map PyData.tuple = _
  rw [this]
  rfl
theorem lookA_set {α β : Type} [DecidableEq α] (l : List (α × β)) (a : α) (b : β) : lookA (setA l a b) a = some b := by
  unfold setA
  split
  · rename_i h
    unfold hasA at h
    unfold lookA
    induction l with
    | nil => cases h
    | cons p l ih =>
      rw [List.map_cons, List.find?_cons]
      by_cases e : p.1 = a
      · simp [e]
      · rw [List.any_cons, decide_eq_false e, Bool.false_or] at h
        have := ih h
        simp [e]
        simpa using this
  · rename_i h
    unfold hasA at h
    unfold lookA
    rw [List.find?_append]
    have : l.find? (fun p => decide (p.1 = a)) = none := by
      rw [List.find?_eq_none]
      intro p hp q
      exact h (List.any_eq_true.mpr ⟨p, hp, q⟩)
    simp [this]
def six19 : List D := [.non, .int 0, .lst [], .str "0", .tup [.int (-1)], .tup [.int 99, .int 0]]
/-- what stands near an element is none -/
def chk19 (last : D) (has : D → Res D) : Bool := match d_q_near [last] with
  | .ok (.lst l) => decide (l.length ≤ 20) && (l ++ six19).all fun t => match has t with | .ok (.bl false) => true | _ => false
  | _ => false
theorem chk19_ok {last : D} {has : D → Res D} (h : chk19 last has = true) : ∃ l, d_q_near [last] = .ok (.lst l) ∧ l.length ≤ 20 ∧ ∀ t ∈ l ++ six19, has t = .ok (.bl false) := by
  unfold chk19 at h
  split at h
  · rename_i l e
    rw [Bool.and_eq_true] at h
    refine ⟨l, e, of_decide_eq_true h.1, fun t ht => ?_⟩
    have := List.all_eq_true.mp h.2 t ht
    split at this
    · assumption
    · cases this
  · cases h
def E19 (ns : List Int) (GD : D) (s2 : Slot) (U W TW Z SO AW : D) (s9 s10 s11 s12 s13 s14 s15 s16 s17 s18 s19 s20 : Slot) : Env := [.sh (.scr ns), .sh GD, s2, .sh U, .sh W, .sh TW, .sh Z, .sh SO, .sh AW, s9, s10, s11, s12, s13, s14, s15, s16, s17, s18, s19, s20]
section
variable {α : Type} [DecidableEq α] {h n : Nat} {V : α → D} {Q : α → NestedKey} {els : List α} {put : α → α → α} {back : α → α} {zero : α} {G GD : D} {s2 : Slot} {up ns : List Int} {c : List Int → List Int → α}
theorem refused19_0 {W : D} {d : D} (h : d_Tower_lying_2 [towG V G up c, d] = .er (.exc 12 [])) : d_q_refused [.int 0, towG V G up c, d] = .ok (.bl true) := by
  have m : mthD mt_lying_T_T (towG V G up c) = .ok (fun ds => d_Tower_lying_2 (towG V G up c :: ds)) := rfl
  have c1 : ctC.contains 12 = true := by decide
  have u1 : ctU.contains 10 = true := by decide
  have o1 : overC 12 10 = true := by decide
  have is1 : isD isC isU (.exc 12 []) (.cls 12) = .ok (.bl true) := by kernel_rfl
  have eq0 : eqD (.int 0) (.int 0) = .ok (.bl true) := rfl
  have et : eqD (.lst [.bl true]) (.lst [.bl true]) = .ok (.bl true) := by kernel_rfl
  have l0 : 0 ≤ lim := by decide
  have l1 : 1 ≤ lim := by decide
  simp only [List.contains_eq_mem, decide_eq_true_iff] at c1 u1
  refine runD_rt rfl ?_
  simp only [startD, N_q_refused, List.length_cons, List.length_nil, List.map_cons, List.map_nil, Nat.reduceAdd, Nat.reduceSub, Nat.zero_add, List.replicate, List.cons_append, List.nil_append]
  generalize towG V G up c = TW at *
  simp [e_q_refused, tryD, catchD, bindI, closeI, clrI, eq0, m, h, c1, u1, o1, is1, et, l0, l1]
theorem refused19_1 {W : D} {d : D} (h : d_Tower_over_2 [towG V G up c, d] = .er (.exc 12 [])) : d_q_refused [.int 1, towG V G up c, d] = .ok (.bl true) := by
  have m : mthD mt_over_T_T (towG V G up c) = .ok (fun ds => d_Tower_over_2 (towG V G up c :: ds)) := rfl
  have c1 : ctC.contains 12 = true := by decide
  have u1 : ctU.contains 10 = true := by decide
  have o1 : overC 12 10 = true := by decide
  have is1 : isD isC isU (.exc 12 []) (.cls 12) = .ok (.bl true) := by kernel_rfl
  have eq0 : eqD (.int 1) (.int 0) = .ok (.bl false) := rfl
  have et : eqD (.lst [.bl true]) (.lst [.bl true]) = .ok (.bl true) := by kernel_rfl
  have l0 : 0 ≤ lim := by decide
  have l1 : 1 ≤ lim := by decide
  simp only [List.contains_eq_mem, decide_eq_true_iff] at c1 u1
  refine runD_rt rfl ?_
  simp only [startD, N_q_refused, List.length_cons, List.length_nil, List.map_cons, List.map_nil, Nat.reduceAdd, Nat.reduceSub, Nat.zero_add, List.replicate, List.cons_append, List.nil_append]
  generalize towG V G up c = TW at *
  simp [e_q_refused, tryD, catchD, bindI, closeI, clrI, eq0, m, h, c1, u1, o1, is1, et, l0, l1]
theorem core19 {enc : α → PyData} (E : Ev h n V Q els put back zero) (h18 : h ≤ 18) (n5 : n ≤ 5) (l16 : els.length ≤ 16) (hns : ns.length ≤ 63) (lw2 : Lw2 V els put GD G) (lw1 : Lw1 V els put GD G) (has : HasF1 V els G) (fp : PutF1 V els put G) (fb : BackedF1 V els back G) (mem : MemF1 V els G) (hi : Hi V els put G) (u : OkU up) (ap : apartK ((prs up).map pkD) = true)
    (en : ∀ p : α × List Int, toPy (paG V p) = some (.tuple [enc p.1, .tuple (p.2.map .int)]))
    (srt : (els.map fun a => (a, zeroV up)).Pairwise (fun a b => PySem.W.dataLt (.tuple [enc b.1, .tuple (b.2.map .int)]) (.tuple [enc a.1, .tuple (a.2.map .int)]) = false ∧ PySem.W.dataLt (.tuple [enc a.1, .tuple (a.2.map .int)]) (.tuple [enc b.1, .tuple (b.2.map .int)]) = true))
    (al : (els.map fun a => (a, zeroV up)).all (fun a => tupB (.tuple [enc a.1, .tuple (a.2.map .int)]) && decide ((PyData.tuple [enc a.1, .tuple (a.2.map .int)]).depth ≤ 50) && (els.map fun a => (a, zeroV up)).all fun b => PySem.W.alike (.tuple [enc a.1, .tuple (a.2.map .int)]) (.tuple [enc b.1, .tuple (b.2.map .int)])) = true)
    (ch0 : ∃ f LA, mthD mt_has_T G = .ok f ∧ ixD (.lst (els.map V)) (.int (-1)) = .ok LA ∧ chk19 LA (fun d => f [d]) = true) (ch1 : ∃ LA, ixD (.lst ((mems up).map tuI)) (.int (-1)) = .ok LA ∧ chk19 LA (fun d => d_Rounds_has [gR up, d]) = true) :
    ((law_s4 [.sh (.scr ns), .sh GD, s2, .sh (tuI up), .un, .un, .un, .un, .un, .un, .un, .un, .un, .un, .un, .un, .un, .un, .un, .un, .un]).seq fun r => (law_s5 r).seq fun r => (law_s6 r).seq fun r => (law_s7 r).seq fun r => (law_s8 r).seq fun r => (law_s9 r).seq fun r => (law_s10 r).seq fun r => (law_s11 r).seq fun r => (law_s12 r).seq fun r => (law_s13 r).seq fun r => (law_s14 r).seq fun r => (law_s15 r).seq fun r => (law_s16 r).seq fun r => (law_s17 r).seq fun r => (law_s18 r).seq fun r => (law_s19 r).seq fun r => law_s20 r) = .rt (.bl true) := by
  have h64 : h ≤ 64 := by omega
  obtain ⟨c, oc, th, sy, e4, ti, wi⟩ := floorL (ns := ns) (a0 := 400) E n5 l16 hi u hns (by omega) (by omega) lw2.al lw2.pl
  have ml := (lwT2 E.L l16 u oc lw1 ap ti wi).ml
  have L2 := towGrp E.L E.cm l16 u oc th
  have z := zero_el u.g.ok
  have hg := oc _ _ z z
  have hb := E.L.backE _ hg
  have bs := backsL_ok E.L h64 E.K lw2.al lw2.pl
  have gb := backs_get (els := els) (back := back) E.K hg
  have alD : d_q_all [GD] = .ok (.lst (els.map V)) := lw2.al
  have ml : d_q_made [rdT V GD up c] = .ok (towG V G up c) := ml
  have r2 := rdT_2 (V := V) (GD := GD) (up := up) (c := c)
  have g0 := getG (V := V) c z z
  have l144 := E.L.len
  have ov := fun {x : List Int} (hx : OkE up x) => overT2 (V := V) (G := G) (up := up) (c := c) l144 mem hx
  have mov : mthD mt_over_T_T (towG V G up c) = .ok (fun ds => d_Tower_over_2 (towG V G up c :: ds)) := rfl
  have ly := fun {a : α} (ha : a ∈ els) => lyingT2 (V := V) (G := G) (up := up) (c := c) u E.L.backE oc has fp fb ha
  have mly : mthD mt_lying_T_T (towG V G up c) = .ok (fun ds => d_Tower_lying_2 (towG V G up c :: ds)) := rfl
  obtain ⟨fa, fa1, fa2⟩ := addT2 (hasT2 (up := up) (c := c) has) (putT2 E.L.putE u oc fp)
  have fa1 : mthD mt_added_T_T (towG V G up c) = .ok fa := fa1
  generalize haw : back (c (zeroV up) (zeroV up)) = aw at *
  have awE : aw ∈ els := hb
  refine seq_nx (r1 := [.sh (.scr ns), .sh GD, s2, .sh (tuI up), .sh (rdT V GD up c), .un, .un, .un, .un, .un, .un, .un, .un, .un, .un, .un, .un, .un, .un, .un, .un]) (by
    generalize rdT V GD up c = RD at *
    generalize tuI up = U at *
    simp [law_s4, e4]) ?_
  refine seq_nx (r1 := [.sh (.scr ns), .sh GD, s2, .sh (tuI up), .sh (rdT V GD up c), .sh (towG V G up c), .un, .un, .un, .un, .un, .un, .un, .un, .un, .un, .un, .un, .un, .un, .un]) (by
    generalize rdT V GD up c = RD at *
    generalize towG V G up c = TW at *
    generalize tuI up = U at *
    simp [law_s5, ml]) ?_
  have l7 := u.g.ok.len
  have zc : law_c1 [.sh (.scr ns), .sh GD, s2, .sh (tuI up), .sh (rdT V GD up c), .sh (towG V G up c), .un, .un, .un, .un, .un, .un, .un, .un, .un, .un, .un, .un, .un, .un, .un] (up.map D.int) = .ok ((zeroV up).map D.int) := by
    unfold law_c1
    have := lcD_gmap (g := nameG 20) (t := fun _ => .ok true) (f := fun _ => .ok (.int 0)) (r := wipeR [.sh (.scr ns), .sh GD, s2, .sh (tuI up), .sh (rdT V GD up c), .sh (towG V G up c), .un, .un, .un, .un, .un, .un, .un, .un, .un, .un, .un, .un, .un, .un, .un] [20]) D.int (fun _ => D.int 0) (xs := up) (fun a _ => ⟨_, rfl, rfl, rfl⟩)
    rw [this]
    unfold zeroV
    rw [List.map_map]
    rfl
  have zl : ((zeroV up).map D.int).length ≤ lim := by simp [zeroV]; unfold lim; omega
  refine seq_nx (r1 := [.sh (.scr ns), .sh GD, s2, .sh (tuI up), .sh (rdT V GD up c), .sh (towG V G up c), .sh (tuI (zeroV up)), .un, .un, .un, .un, .un, .un, .un, .un, .un, .un, .un, .un, .un, .un]) (by
    have it : itemsD (tuI up) = .ok (up.map D.int) := rfl
    have tu : tupleD (.lst ((zeroV up).map D.int)) = .ok (tuI (zeroV up)) := rfl
    generalize rdT V GD up c = RD at *
    generalize towG V G up c = TW at *
    generalize tuI (zeroV up) = Z at *
    generalize (zeroV up).map D.int = ZL at *
    generalize tuI up = U at *
    generalize up.map D.int = UL at *
    simp [-tupleD, law_s6, it, zc, zl, tu]) ?_
  refine seq_nx (r1 := [.sh (.scr ns), .sh GD, s2, .sh (tuI up), .sh (rdT V GD up c), .sh (towG V G up c), .sh (tuI (zeroV up)), .sh (.lst (els.map V)), .un, .un, .un, .un, .un, .un, .un, .un, .un, .un, .un, .un, .un]) (by
    generalize rdT V GD up c = RD at *
    generalize towG V G up c = TW at *
    generalize tuI (zeroV up) = Z at *
    generalize D.lst (els.map V) = EL at *
    simp [law_s7, alD]) ?_
  have l2 := l_two
  refine seq_nx (r1 := E19 ns GD s2 (tuI up) (rdT V GD up c) (towG V G up c) (tuI (zeroV up)) (.lst (els.map V)) (V aw) .un .un .un .un .un .un .un .un .un .un .un .un) (by
    unfold E19
    generalize cG V up c = C at *
    generalize rdT V GD up c = RD at *
    generalize towG V G up c = TW at *
    generalize tuI (zeroV up) = Z at *
    generalize D.lst (els.map V) = EL at *
    generalize V (c (zeroV up) (zeroV up)) = v0 at *
    generalize backsD V els back = B at *
    generalize V aw = A at *
    simp [law_s8, bs, r2, g0, gb, l2]) ?_
  refine seq_nx (r1 := E19 ns GD s2 (tuI up) (rdT V GD up c) (towG V G up c) (tuI (zeroV up)) (.lst (els.map V)) (V aw) (.ow .flat (.dic [] [])) .un .un .un .un .un .un .un .un .un .un .un) (by
    unfold E19
    generalize rdT V GD up c = RD at *
    generalize towG V G up c = TW at *
    generalize tuI (zeroV up) = Z at *
    generalize D.lst (els.map V) = EL at *
    simp [law_s9]) ?_
  have it : itemsD (.lst (els.map V)) = .ok (els.map V) := rfl
  have neP := L2.neV (by omega)
  -- each element as it lies
  refine seq_ex (fun r => ∃ s10, r = E19 ns GD s2 (tuI up) (rdT V GD up c) (towG V G up c) (tuI (zeroV up)) (.lst (els.map V)) (V aw) (.ow .flat (dicA V (paG V) (els.map fun a => (a, (put a aw, zeroV up))))) s10 .un .un .un .un .un .un .un .un .un .un) ?_ ?_
  · obtain ⟨r', lp, s10, e⟩ := fillRule (N := 144) (f := law_l2) V (fun a : α => a) (fun a => (put a aw, zeroV up)) (fun M r => ∃ s10, r = E19 ns GD s2 (tuI up) (rdT V GD up c) (towG V G up c) (tuI (zeroV up)) (.lst (els.map V)) (V aw) (.ow .flat (dicA V (paG V) M)) s10 .un .un .un .un .un .un .un .un .un .un) (X := els) (L := [])
      (r := E19 ns GD s2 (tuI up) (rdT V GD up c) (towG V G up c) (tuI (zeroV up)) (.lst (els.map V)) (V aw) (.ow .flat (dicA V (paG V) [])) .un .un .un .un .un .un .un .un .un .un .un) (by simpa using l144) (by simpa using E.L.nd) (by simp)
      (fun M hM a ha _ r ⟨s10, e⟩ => by
        subst e
        have h1 := ly ha
        have sd : setD (dicA V (paG V) M) (V a) (paG V (put a aw, zeroV up)) = .ok (dicA V (paG V) (setA M a (put a aw, zeroV up))) := setD_A (V := paG V) E.K M a _ (by unfold lim; omega)
        have ix : ixD (dicA V (paG V) (setA M a (put a aw, zeroV up))) (V a) = .ok (paG V (put a aw, zeroV up)) := ixD_A (V := paG V) E.K _ a (lookA_set M a _)
        have q := lw2.pl a ha aw awE
        have ne := neP (put a aw, zeroV up) (put a aw, zeroV up)
        rw [decide_eq_true rfl] at ne
        have is := pa_is (V := V) (put a aw, zeroV up)
        have pe : D.tup [V (put a aw), tuI (zeroV up)] = paG V (put a aw, zeroV up) := rfl
        refine ⟨E19 ns GD s2 (tuI up) (rdT V GD up c) (towG V G up c) (tuI (zeroV up)) (.lst (els.map V)) (V aw) (.ow .flat (dicA V (paG V) (setA M a (put a aw, zeroV up)))) (.sh (V a)) .un .un .un .un .un .un .un .un .un .un, ?_, _, rfl⟩
        unfold E19
        generalize dicA V (paG V) (setA M a (put a aw, zeroV up)) = D2 at *
        generalize dicA V (paG V) M = D1 at *
        generalize paG V (put a aw, zeroV up) = P at *
        generalize rdT V GD up c = RD at *
        generalize towG V G up c = TW at *
        generalize tuI (zeroV up) = Z at *
        generalize D.lst (els.map V) = EL at *
        generalize V (put a aw) = v1 at *
        generalize V aw = A at *
        generalize V a = v2 at *
        simp [law_l2, law_s10_1, law_s10_2, setG, ownF, mly, h1, sd, ix, is, q, pe, ne, l2]) ⟨_, rfl⟩
    subst e
    rw [List.nil_append] at lp
    rw [show (dicA V (paG V) ([] : List (α × (α × List Int)))) = .dic [] [] from rfl] at lp
    refine ⟨_, ?_, s10, rfl⟩
    unfold E19 at *
    generalize dicA V (paG V) (els.map fun a => (a, (put a aw, zeroV up))) = D2 at *
    generalize rdT V GD up c = RD at *
    generalize towG V G up c = TW at *
    generalize tuI (zeroV up) = Z at *
    generalize D.lst (els.map V) = EL at *
    generalize els.map V = EE at *
    simp [law_s10, it, lp]
  rintro _ ⟨s10, rfl⟩
  have gl : ∀ a ∈ els, ixD (dicA V (paG V) (els.map fun a => (a, (put a aw, zeroV up)))) (V a) = .ok (paG V (put a aw, zeroV up)) := fun a ha => ixD_A (V := paG V) E.K _ a (lookA_map (fun a => (put a aw, zeroV up)) ha)
  have le : lenD (.lst (els.map V)) = .ok (.int els.length) := by simp [lenD]
  -- sums as sums
  have homo : ∀ a ∈ els, ∀ b ∈ els, putGT put up c (put a aw, zeroV up) (put b aw, zeroV up) = (put (put a b) aw, zeroV up) := fun a ha b hb' => by
    unfold putGT
    refine Prod.ext ?_ (put_zero z)
    dsimp only
    have hbw := E.L.putE b hb' aw awE
    have hbp : put aw (c (zeroV up) (zeroV up)) = zero := by rw [← haw]; exact E.L.bp _ hg
    rw [E.L.assoc _ (E.L.putE a ha aw awE) _ hbw _ hg, E.L.assoc b hb' aw awE _ hg, hbp, E.L.pz b hb', E.L.assoc a ha aw awE b hb', E.cm aw awE b hb', ← E.L.assoc a ha b hb' aw awE]
  refine seq_ex (fun r => ∃ s10 s11 s12, r = E19 ns GD s2 (tuI up) (rdT V GD up c) (towG V G up c) (tuI (zeroV up)) (.lst (els.map V)) (V aw) (.ow .flat (dicA V (paG V) (els.map fun a => (a, (put a aw, zeroV up))))) s10 s11 s12 .un .un .un .un .un .un .un .un) ?_ ?_
  · have rg := rng_ints 20 (by omega)
    obtain ⟨r', lp, e⟩ := forD_row (pre0 := List.range 20) (f := law_l3) (fun i : Nat => .int (i : Nat)) (fun done r => ∃ s10 s11 s12, r = E19 ns GD s2 (tuI up) (rdT V GD up c) (towG V G up c) (tuI (zeroV up)) (.lst (els.map V)) (V aw) (.ow .flat (dicA V (paG V) (els.map fun a => (a, (put a aw, zeroV up))))) s10 s11 s12 .un .un .un .un .un .un .un .un)
      (ds := List.range 20) (pre := []) (r := E19 ns GD s2 (tuI up) (rdT V GD up c) (towG V G up c) (tuI (zeroV up)) (.lst (els.map V)) (V aw) (.ow .flat (dicA V (paG V) (els.map fun a => (a, (put a aw, zeroV up))))) s10 .un .un .un .un .un .un .un .un .un .un) (fun done k hd r ⟨s10, s11, s12, e⟩ => by
        subst e
        obtain ⟨rest, hr⟩ := hd
        have hk : k < 20 := List.mem_range.mp (by rw [← hr]; simp)
        have mu : mulD (.int 2) (.int (k : Nat)) = .ok (.int (2 * (k : Nat))) := mulD_small (.inr ⟨by omega, by omega⟩)
        have a1 : addD (.int 120) (.int (2 * (k : Nat))) = .ok (.int (120 + 2 * (k : Nat))) := rfl
        have a2 : addD (.int 121) (.int (2 * (k : Nat))) = .ok (.int (121 + 2 * (k : Nat))) := rfl
        obtain ⟨c1, ec1⟩ := q_cell_ok ns (120 + 2 * (k : Nat)) (by omega) hns (by omega)
        obtain ⟨c2, ec2⟩ := q_cell_ok ns (121 + 2 * (k : Nat)) (by omega) hns (by omega)
        obtain ⟨x, hx, m1, i1⟩ := pickL (V := V) E.L.zeroE l144 c1
        obtain ⟨y, hy, m2, i2⟩ := pickL (V := V) E.L.zeroE l144 c2
        have hxy := E.L.putE x hx y hy
        have g1 := gl x hx
        have g2 := gl y hy
        have g3 := gl _ hxy
        have q1 := lw2.pl x hx y hy
        have q2 := fa2 (put x aw, zeroV up) (mem_allG.mpr ⟨E.L.putE x hx aw awE, z⟩) (put y aw, zeroV up) (mem_allG.mpr ⟨E.L.putE y hy aw awE, z⟩)
        rw [homo x hx y hy] at q2
        have ne := neP (put (put x y) aw, zeroV up) (put (put x y) aw, zeroV up)
        rw [decide_eq_true rfl] at ne
        refine ⟨E19 ns GD s2 (tuI up) (rdT V GD up c) (towG V G up c) (tuI (zeroV up)) (.lst (els.map V)) (V aw) (.ow .flat (dicA V (paG V) (els.map fun a => (a, (put a aw, zeroV up))))) (.sh (V x)) (.sh (.int (k : Nat))) (.sh (V y)) .un .un .un .un .un .un .un .un, ?_, _, _, _, rfl⟩
        unfold E19
        generalize dicA V (paG V) (els.map fun a => (a, (put a aw, zeroV up))) = D1 at *
        generalize rdT V GD up c = RD at *
        generalize towG V G up c = TW at *
        generalize paG V (put (put x y) aw, zeroV up) = p1 at *
        generalize paG V (put x aw, zeroV up) = p2 at *
        generalize paG V (put y aw, zeroV up) = p3 at *
        generalize tuI (zeroV up) = Z at *
        generalize D.lst (els.map V) = EL at *
        generalize ((els.length : Nat) : Int) = n at *
        generalize c1 % n = c1n at *
        generalize c2 % n = c2n at *
        generalize 120 + 2 * ((k : Nat) : Int) = k1 at *
        generalize 121 + 2 * ((k : Nat) : Int) = k2 at *
        generalize 2 * ((k : Nat) : Int) = kk at *
        generalize V (put x y) = v2 at *
        generalize V aw = v3 at *
        generalize V x = v4 at *
        generalize V y = v5 at *
        simp [-lenD, -addD_int, law_l3, law_s11_1, law_s11_2, law_s11_3, mu, a1, a2, ec1, ec2, le, m1, i1, m2, i2, fa1, q1, q2, g1, g2, g3, ne]) (by simp) ⟨_, _, _, rfl⟩
    refine ⟨r', ?_, e⟩
    generalize E19 ns GD s2 (tuI up) (rdT V GD up c) (towG V G up c) (tuI (zeroV up)) (.lst (els.map V)) (V aw) (.ow .flat (dicA V (paG V) (els.map fun a => (a, (put a aw, zeroV up))))) s10 .un .un .un .un .un .un .un .un .un .un = R at *
    have rg : rng1 [.int 20] = .ok ((List.range 20).map fun i : Nat => .int (i : Nat)) := rg
    unfold law_s11
    simp only [ok_bind, rg, lift_ok]
    exact lp
  rintro _ ⟨s10, s11, s12, rfl⟩
  have ovz := ov z
  have okL : ∀ x : List Int, okQ 64 (.lst (els.map fun a => paG V (a, x))) = true := fun x => by
    show (els.map fun a => paG V (a, x)).all (okQ 63) = true
    rw [List.all_map]
    exact List.all_eq_true.mpr fun a _ => L2.okV 63 (a, x) (by omega)
  -- sorted, what lies are those over the nought
  have so : sortedVD (dicA V (paG V) (els.map fun a => (a, (put a aw, zeroV up)))) = .ok (.lst (els.map fun a => paG V (a, zeroV up))) := by
    unfold dicA
    rw [sortedVD_is]
    have e1 : ((els.map fun a => (a, (put a aw, zeroV up))).map fun p => paG V p.2) = ((els.map fun a => put a aw).map fun a => (a, zeroV up)).map (paG V) := by rw [List.map_map, List.map_map, List.map_map]; rfl
    have e2 : (els.map fun a => paG V (a, zeroV up)) = (els.map fun a => (a, zeroV up)).map (paG V) := by rw [List.map_map]; rfl
    rw [e1, e2]
    refine sorted_data en srt al ?_
    refine List.Perm.map _ ?_
    have nd : (els.map fun a => put a aw).Nodup := by
      rw [List.nodup_iff_pairwise_ne, List.pairwise_map]
      exact List.Pairwise.imp_of_mem (fun ha hb' hne e => hne (E.L.cancel_r awE ha hb' e)) (List.nodup_iff_pairwise_ne.mp E.L.nd)
    refine (List.perm_ext_iff_of_nodup nd E.L.nd).mpr fun a => ⟨fun hm => ?_, fun ha => ?_⟩
    · obtain ⟨b, hb', rfl⟩ := List.mem_map.mp hm
      exact E.L.putE b hb' aw awE
    · have hba := E.L.backE _ awE
      exact List.mem_map.mpr ⟨put a (back aw), E.L.putE a ha _ hba, by rw [E.L.assoc a ha _ hba aw awE, E.L.bp aw awE, E.L.pz a ha]⟩
  refine seq_nx (r1 := E19 ns GD s2 (tuI up) (rdT V GD up c) (towG V G up c) (tuI (zeroV up)) (.lst (els.map V)) (V aw) (.ow .flat (dicA V (paG V) (els.map fun a => (a, (put a aw, zeroV up))))) s10 s11 s12 .un .un .un .un .un .un .un .un) (by
    have ne := neD_refl (okL (zeroV up))
    unfold E19
    generalize dicA V (paG V) (els.map fun a => (a, (put a aw, zeroV up))) = D1 at *
    generalize D.lst (els.map fun a => paG V (a, zeroV up)) = OV at *
    generalize rdT V GD up c = RD at *
    generalize towG V G up c = TW at *
    generalize tuI (zeroV up) = Z at *
    generalize D.lst (els.map V) = EL at *
    simp [law_s12, so, mov, ovz, ne, ml]) ?_
  -- what lies over each element
  have me := q_elements_ok u.g.ok u.g.most u.g.prod
  have itm : itemsD (.lst ((mems up).map tuI)) = .ok ((mems up).map tuI) := rfl
  refine seq_ex (fun r => ∃ s10 s13 s14 s15, r = E19 ns GD s2 (tuI up) (rdT V GD up c) (towG V G up c) (tuI (zeroV up)) (.lst (els.map V)) (V aw) (.ow .flat (dicA V (paG V) (els.map fun a => (a, (put a aw, zeroV up))))) s10 s11 s12 s13 s14 s15 .un .un .un .un .un) ?_ ?_
  · have turn : ∀ (x : List Int) (k : Int) (s14 s15 : Slot), OkE up x → law_l5 (.int k) (E19 ns GD s2 (tuI up) (rdT V GD up c) (towG V G up c) (tuI (zeroV up)) (.lst (els.map V)) (V aw) (.ow .flat (dicA V (paG V) (els.map fun a => (a, (put a aw, zeroV up))))) s10 s11 s12 (.sh (tuI x)) s14 s15 .un .un .un .un .un) =
        .nx (E19 ns GD s2 (tuI up) (rdT V GD up c) (towG V G up c) (tuI (zeroV up)) (.lst (els.map V)) (V aw) (.ow .flat (dicA V (paG V) (els.map fun a => (a, (put a aw, zeroV up))))) s10 s11 s12 (.sh (tuI x)) (.sh (.int k)) (.ow .flat (.lst [])) .un .un .un .un .un) := fun x k s14 s15 hx => by
      have o := ov hx
      have ne := neD_refl (okL x)
      have is : isD isC isU (.lst (els.map fun a => paG V (a, x))) (.ty "list") = .ok (.bl true) := by
        generalize els.map (fun a => paG V (a, x)) = XL
        kernel_rfl
      have c4 : law_c4 (E19 ns GD s2 (tuI up) (rdT V GD up c) (towG V G up c) (tuI (zeroV up)) (.lst (els.map V)) (V aw) (.ow .flat (dicA V (paG V) (els.map fun a => (a, (put a aw, zeroV up))))) s10 s11 s12 (.sh (tuI x)) (.sh (.int k)) (.ow .flat (.lst (els.map fun a => paG V (a, x)))) .un .un .un .un .un) (els.map V) = .ok (els.map fun a => paG V (a, x)) := by
        unfold law_c4
        refine lcD_gmap V (fun a => paG V (a, x)) fun a _ => ⟨_, rfl, rfl, ?_⟩
        show _ = Res.ok (D.tup [V a, tuI x])
        unfold E19
        generalize dicA V (paG V) (els.map fun a => (a, (put a aw, zeroV up))) = D1 at *
        generalize D.lst (els.map fun a => paG V (a, x)) = OX at *
        generalize rdT V GD up c = RD at *
        generalize towG V G up c = TW at *
        generalize D.lst (els.map V) = EL at *
        generalize V a = A at *
        generalize tuI x = X at *
        simp [wipeR, l2]
      have hl : (els.map fun a => paG V (a, x)).length ≤ lim := by rw [List.length_map]; unfold lim; omega
      unfold E19 at *
      generalize dicA V (paG V) (els.map fun a => (a, (put a aw, zeroV up))) = D1 at *
      generalize hOX : (els.map fun a => paG V (a, x)) = OX at *
      generalize rdT V GD up c = RD at *
      generalize towG V G up c = TW at *
      generalize tuI (zeroV up) = Z at *
      generalize D.lst (els.map V) = EL at *
      generalize els.map V = EE at *
      generalize tuI x = X at *
      simp [law_l5, law_s13_1_1, law_s13_1_2, law_s13_1_3, clrG, ownF, mov, o, is, it, c4, hl, ne]
    obtain ⟨r', lp, e⟩ := forD_row (pre0 := mems up) (f := law_l6) tuI (fun done r => ∃ s13 s14 s15, r = E19 ns GD s2 (tuI up) (rdT V GD up c) (towG V G up c) (tuI (zeroV up)) (.lst (els.map V)) (V aw) (.ow .flat (dicA V (paG V) (els.map fun a => (a, (put a aw, zeroV up))))) s10 s11 s12 s13 s14 s15 .un .un .un .un .un)
      (ds := mems up) (pre := []) (r := E19 ns GD s2 (tuI up) (rdT V GD up c) (towG V G up c) (tuI (zeroV up)) (.lst (els.map V)) (V aw) (.ow .flat (dicA V (paG V) (els.map fun a => (a, (put a aw, zeroV up))))) s10 s11 s12 .un .un .un .un .un .un .un .un) (fun done x hd r ⟨s13, s14, s15, e⟩ => by
        subst e
        obtain ⟨rest, hr⟩ := hd
        have hx : OkE up x := mem_mems.mp (by rw [← hr]; simp)
        have t1 := turn x 0 s14 s15 hx
        have t2 := turn x 1 (.sh (.int 0)) (.ow .flat (.lst [])) hx
        have fd : forD law_l5 [.int 0, .int 1] (E19 ns GD s2 (tuI up) (rdT V GD up c) (towG V G up c) (tuI (zeroV up)) (.lst (els.map V)) (V aw) (.ow .flat (dicA V (paG V) (els.map fun a => (a, (put a aw, zeroV up))))) s10 s11 s12 (.sh (tuI x)) s14 s15 .un .un .un .un .un) = .nx (E19 ns GD s2 (tuI up) (rdT V GD up c) (towG V G up c) (tuI (zeroV up)) (.lst (els.map V)) (V aw) (.ow .flat (dicA V (paG V) (els.map fun a => (a, (put a aw, zeroV up))))) s10 s11 s12 (.sh (tuI x)) (.sh (.int 1)) (.ow .flat (.lst [])) .un .un .un .un .un) := by
          rw [forD_cons, t1]
          show forD law_l5 [.int 1] _ = _
          rw [forD_cons, t2]
          rfl
        have rg : rng1 [.int 2] = .ok [.int 0, .int 1] := rfl
        refine ⟨E19 ns GD s2 (tuI up) (rdT V GD up c) (towG V G up c) (tuI (zeroV up)) (.lst (els.map V)) (V aw) (.ow .flat (dicA V (paG V) (els.map fun a => (a, (put a aw, zeroV up))))) s10 s11 s12 (.sh (tuI x)) (.sh (.int 1)) (.ow .flat (.lst [])) .un .un .un .un .un, ?_, _, _, _, rfl⟩
        rw [← fd]
        unfold E19
        generalize dicA V (paG V) (els.map fun a => (a, (put a aw, zeroV up))) = D1 at *
        generalize rdT V GD up c = RD at *
        generalize towG V G up c = TW at *
        generalize tuI (zeroV up) = Z at *
        generalize D.lst (els.map V) = EL at *
        generalize tuI x = X at *
        simp [law_l6, law_s13_1, rg]) (by simp) ⟨_, _, _, rfl⟩
    obtain ⟨s13, s14, s15, e⟩ := e
    subst e
    refine ⟨E19 ns GD s2 (tuI up) (rdT V GD up c) (towG V G up c) (tuI (zeroV up)) (.lst (els.map V)) (V aw) (.ow .flat (dicA V (paG V) (els.map fun a => (a, (put a aw, zeroV up))))) s10 s11 s12 s13 s14 s15 .un .un .un .un .un, ?_, s10, s13, s14, s15, rfl⟩
    unfold E19 at *
    generalize dicA V (paG V) (els.map fun a => (a, (put a aw, zeroV up))) = D1 at *
    generalize rdT V GD up c = RD at *
    generalize towG V G up c = TW at *
    generalize tuI (zeroV up) = Z at *
    generalize D.lst (els.map V) = EL at *
    generalize hML : D.lst ((mems up).map tuI) = ML at *
    generalize (mems up).map tuI = MM at *
    generalize tuI up = U at *
    simp [law_s13, me, itm, lp]
  rintro _ ⟨s10, s13, s14, s15, rfl⟩
  refine seq_nx (r1 := E19 ns GD s2 (tuI up) (rdT V GD up c) (towG V G up c) (tuI (zeroV up)) (.lst (els.map V)) (V aw) (.ow .flat (dicA V (paG V) (els.map fun a => (a, (put a aw, zeroV up))))) s10 s11 s12 s13 s14 s15 (.sh (.lst ((mems up).map tuI))) .un .un .un .un) (by
    unfold E19
    generalize dicA V (paG V) (els.map fun a => (a, (put a aw, zeroV up))) = D1 at *
    generalize rdT V GD up c = RD at *
    generalize towG V G up c = TW at *
    generalize tuI (zeroV up) = Z at *
    generalize D.lst (els.map V) = EL at *
    generalize D.lst ((mems up).map tuI) = ML at *
    generalize tuI up = U at *
    simp [law_s14, me]) ?_
  obtain ⟨k60, ec60⟩ := q_cell_ok ns 60 (by omega) hns (by omega)
  obtain ⟨k64, ec64⟩ := q_cell_ok ns 64 (by omega) hns (by omega)
  obtain ⟨k3, ec3⟩ := q_cell_ok ns 3 (by omega) hns (by omega)
  have l9 := u.mems_le
  obtain ⟨x, hx, mx, ix⟩ := pickL (V := tuI) (els := mems up) (zero := zeroV up) (mem_mems.mpr z) (by omega) k60
  obtain ⟨y, hy, my, iy⟩ := pickL (V := tuI) (els := mems up) (zero := zeroV up) (mem_mems.mpr z) (by omega) k64
  have hx := mem_mems.mp hx
  have hy := mem_mems.mp hy
  have lm : lenD (.lst ((mems up).map tuI)) = .ok (.int (mems up).length) := by simp [lenD]
  refine seq_nx (r1 := E19 ns GD s2 (tuI up) (rdT V GD up c) (towG V G up c) (tuI (zeroV up)) (.lst (els.map V)) (V aw) (.ow .flat (dicA V (paG V) (els.map fun a => (a, (put a aw, zeroV up))))) s10 s11 s12 (.sh (tuI x)) s14 s15 (.sh (.lst ((mems up).map tuI))) .un .un .un .un) (by
    unfold E19
    generalize dicA V (paG V) (els.map fun a => (a, (put a aw, zeroV up))) = D1 at *
    generalize rdT V GD up c = RD at *
    generalize towG V G up c = TW at *
    generalize tuI (zeroV up) = Z at *
    generalize D.lst (els.map V) = EL at *
    generalize D.lst ((mems up).map tuI) = ML at *
    generalize (((mems up).length : Nat) : Int) = n at *
    generalize k60 % n = kn at *
    generalize tuI x = X at *
    simp [-lenD, law_s15, ec60, lm, mx, ix]) ?_
  refine seq_nx (r1 := E19 ns GD s2 (tuI up) (rdT V GD up c) (towG V G up c) (tuI (zeroV up)) (.lst (els.map V)) (V aw) (.ow .flat (dicA V (paG V) (els.map fun a => (a, (put a aw, zeroV up))))) s10 s11 s12 (.sh (tuI x)) s14 s15 (.sh (.lst ((mems up).map tuI))) (.sh (tuI y)) .un .un .un) (by
    unfold E19
    generalize dicA V (paG V) (els.map fun a => (a, (put a aw, zeroV up))) = D1 at *
    generalize rdT V GD up c = RD at *
    generalize towG V G up c = TW at *
    generalize tuI (zeroV up) = Z at *
    generalize D.lst (els.map V) = EL at *
    generalize D.lst ((mems up).map tuI) = ML at *
    generalize (((mems up).length : Nat) : Int) = n at *
    generalize k64 % n = kn at *
    generalize tuI x = X at *
    generalize tuI y = Y at *
    simp [-lenD, law_s16, ec64, lm, my, iy]) ?_
  have nel : els ≠ [] := fun e => by have := E.L.zeroE; rw [e] at this; cases this
  refine seq_nx (r1 := E19 ns GD s2 (tuI up) (rdT V GD up c) (towG V G up c) (tuI (zeroV up)) (.lst (els.map V)) (V aw) (.ow .flat (dicA V (paG V) (els.map fun a => (a, (put a aw, zeroV up))))) s10 s11 s12 (.sh (tuI x)) s14 s15 (.sh (.lst ((mems up).map tuI))) (.sh (tuI y)) .un .un .un) (by
    have o1 := ov hx
    have o2 := ov hy
    have hxy := put_el u.g.ok hx.len hy.len
    have o3 := ov hxy
    have pq := q_plus_ok u.g.ok hx.len hy.len
    have lst := last_at (xs := els.map fun a => paG V (a, x)) (by simpa using nel)
    obtain ⟨a, ha, ea⟩ : ∃ a ∈ els, (els.map fun a => paG V (a, x)).getLast (by simpa using nel) = paG V (a, x) := by
      have := List.getLast_mem (l := els.map fun a => paG V (a, x)) (by simpa using nel)
      obtain ⟨a, ha, e⟩ := List.mem_map.mp this
      exact ⟨a, ha, e.symm⟩
    rw [ea] at lst
    obtain ⟨b, hb', eb⟩ : ∃ b ∈ els, ixD (.lst (els.map fun a => paG V (a, y))) (.int 0) = .ok (paG V (b, y)) := by
      cases hE : els with
      | nil => exact absurd hE nel
      | cons b l => exact ⟨b, List.mem_cons_self, by
        rw [ixD_lst]
        unfold atI ixN
        rw [if_pos (by omega), if_pos (by simp)]
        rfl⟩
    have q := fa2 (a, x) (mem_allG.mpr ⟨ha, hx⟩) (b, y) (mem_allG.mpr ⟨hb', hy⟩)
    have hv : putGT put up c (a, x) (b, y) = (put (put a b) (c x y), putV up x y) := rfl
    rw [hv] at q
    have hin : put (put a b) (c x y) ∈ els := E.L.putE _ (E.L.putE a ha b hb') _ (oc x y hx hy)
    have ni : notInD (paG V (put (put a b) (c x y), putV up x y)) (.lst (els.map fun a => paG V (a, putV up x y))) = .ok (.bl false) := by
      rw [notIn_list (L2.okV 63 _ (by omega)) (by
        rw [List.all_map]
        exact List.all_eq_true.mpr fun a _ => L2.okV 63 (a, _) (by omega))]
      have : ((els.map fun a => paG V (a, putV up x y)).any fun z => eqQ z (paG V (put (put a b) (c x y), putV up x y))) = true := List.any_eq_true.mpr ⟨_, List.mem_map.mpr ⟨_, hin, rfl⟩, by rw [L2.eqq]; exact decide_eq_true rfl⟩
      rw [this]
      rfl
    have ng : negD (.int 1) = .ok (.int (-1)) := rfl
    unfold E19
    generalize dicA V (paG V) (els.map fun a => (a, (put a aw, zeroV up))) = D1 at *
    generalize paG V (put (put a b) (c x y), putV up x y) = R at *
    generalize paG V (a, x) = P at *
    generalize paG V (b, y) = Q' at *
    generalize D.lst (els.map fun a => paG V (a, x)) = OX at *
    generalize D.lst (els.map fun a => paG V (a, y)) = OY at *
    generalize D.lst (els.map fun a => paG V (a, putV up x y)) = OZ at *
    generalize rdT V GD up c = RD at *
    generalize towG V G up c = TW at *
    generalize tuI (zeroV up) = Z at *
    generalize D.lst (els.map V) = EL at *
    generalize D.lst ((mems up).map tuI) = ML at *
    generalize tuI (putV up x y) = XY at *
    generalize tuI x = X at *
    generalize tuI y = Y at *
    generalize tuI up = U at *
    simp [law_s17, mov, fa1, o1, o2, o3, ng, lst, eb, q, pq, ni]) ?_
  have d8 := divD_ok (i := k3) (j := 8) (by omega) (by decide)
  have m2 := modD_ok (i := k3 / 8) (j := 2) (by omega)
  refine seq_nx (r1 := E19 ns GD s2 (tuI up) (rdT V GD up c) (towG V G up c) (tuI (zeroV up)) (.lst (els.map V)) (V aw) (.ow .flat (dicA V (paG V) (els.map fun a => (a, (put a aw, zeroV up))))) s10 s11 s12 (.sh (tuI x)) s14 s15 (.sh (.lst ((mems up).map tuI))) (.sh (tuI y)) (.sh (.int (k3 / 8 % 2))) .un .un) (by
    unfold E19
    generalize dicA V (paG V) (els.map fun a => (a, (put a aw, zeroV up))) = D1 at *
    generalize rdT V GD up c = RD at *
    generalize towG V G up c = TW at *
    generalize tuI (zeroV up) = Z at *
    generalize D.lst (els.map V) = EL at *
    generalize D.lst ((mems up).map tuI) = ML at *
    generalize k3 / 8 = k8 at *
    generalize k8 % 2 = k82 at *
    generalize tuI x = X at *
    generalize tuI y = Y at *
    simp [law_s18, ec3, d8, m2]) ?_
  obtain ⟨fh, LA, hf1, hla, hchk⟩ := ch0
  obtain ⟨LU, hlu, hchk1⟩ := ch1
  obtain ⟨n0, nr0, nl0, nh0⟩ := chk19_ok hchk
  obtain ⟨n1, nr1, nl1, nh1⟩ := chk19_ok hchk1
  have w0 := Int.emod_nonneg (k3 / 8) (show (2 : Int) ≠ 0 by omega)
  have w1 := Int.emod_lt_of_pos (k3 / 8) (show (0 : Int) < 2 by omega)
  have ng : negD (.int 1) = .ok (.int (-1)) := rfl
  have fin : ∀ (way : Int) (l : List D) (LX : D), (ixD (.lst [LA, LU]) (.int way) = .ok LX) → d_q_near [LX] = .ok (.lst l) → l.length ≤ 20 → (∀ t ∈ l ++ six19, d_q_refused [.int way, towG V G up c, t] = .ok (.bl true)) →
      ((law_s19 (E19 ns GD s2 (tuI up) (rdT V GD up c) (towG V G up c) (tuI (zeroV up)) (.lst (els.map V)) (V aw) (.ow .flat (dicA V (paG V) (els.map fun a => (a, (put a aw, zeroV up))))) s10 s11 s12 (.sh (tuI x)) s14 s15 (.sh (.lst ((mems up).map tuI))) (.sh (tuI y)) (.sh (.int way)) .un .un)).seq fun r => law_s20 r) = .rt (.bl true) := fun way l LX hx1 hn hl ht => by
    have lz : 0 < (l ++ six19).length := by unfold six19; simp
    have hl6 : l.length + [D.non, .int 0, .lst [], .str "0", .tup [.int (-1)], .tup [.int 99, .int 0]].length ≤ lim := by simp; unfold lim; omega
    have ad : addD (.lst l) (.lst [D.non, .int 0, .lst [], .str "0", .tup [.int (-1)], .tup [.int 99, .int 0]]) = .ok (.lst (l ++ six19)) := by
      show (if _ then _ else _) = _
      rw [if_pos hl6]
      rfl
    have l6 : 6 ≤ lim := by decide
    have l0 : 0 ≤ lim := by decide
    have l1 : 1 ≤ lim := by decide
    obtain ⟨t, htm, et⟩ := ixD_pick (xs := l ++ six19) k3 (((l ++ six19).length : Nat) : Int) rfl (by omega)
    have hr := ht t htm
    have ln : lenD (.lst (l ++ six19)) = .ok (.int (l ++ six19).length) := by simp [lenD]
    have mo := modD_ok (i := k3) (j := (((l ++ six19).length : Nat) : Int)) (by omega)
    refine seq_nx (r1 := E19 ns GD s2 (tuI up) (rdT V GD up c) (towG V G up c) (tuI (zeroV up)) (.lst (els.map V)) (V aw) (.ow .flat (dicA V (paG V) (els.map fun a => (a, (put a aw, zeroV up))))) s10 s11 s12 (.sh (tuI x)) s14 s15 (.sh (.lst ((mems up).map tuI))) (.sh (tuI y)) (.sh (.int way)) (.sh (.lst (l ++ six19))) .un) (by
      unfold E19
      generalize dicA V (paG V) (els.map fun a => (a, (put a aw, zeroV up))) = D1 at *
      generalize D.lst (l ++ six19) = TL at *
      generalize D.lst l = LL at *
      generalize rdT V GD up c = RD at *
      generalize towG V G up c = TW at *
      generalize tuI (zeroV up) = Z at *
      generalize D.lst (els.map V) = EL at *
      generalize D.lst ((mems up).map tuI) = ML at *
      generalize tuI x = X at *
      generalize tuI y = Y at *
      simp [-ixD_lst, law_s19, ng, hla, hlu, hx1, hn, l0, l1, l2, l6, ad]) ?_
    unfold E19
    generalize dicA V (paG V) (els.map fun a => (a, (put a aw, zeroV up))) = D1 at *
    generalize (((l ++ six19).length : Nat) : Int) = nn at *
    generalize k3 % nn = kn at *
    generalize D.lst (l ++ six19) = TL at *
    generalize rdT V GD up c = RD at *
    generalize towG V G up c = TW at *
    generalize tuI (zeroV up) = Z at *
    generalize D.lst (els.map V) = EL at *
    generalize D.lst ((mems up).map tuI) = ML at *
    simp [-lenD, -ixD_lst, law_s20, ec3, ln, mo, et, hr]
  rcases (show k3 / 8 % 2 = 0 ∨ k3 / 8 % 2 = 1 by omega) with e | e
  · rw [e]
    exact fin 0 n0 LA rfl nr0 nl0 fun t ht => refused19_0 (W := .non) (lyingN2 ⟨fh, hf1, nh0 t ht⟩)
  · rw [e]
    exact fin 1 n1 LU rfl nr1 nl1 fun t ht => refused19_1 (W := .non) (overN2 (nh1 t ht))
end
def grps19 : List (List Int) := [[2], [3], [4], [2, 2], [6], [2, 4], [], [3, 3]]
def ups19 : List (List Int) := [[2], [3], [2, 2], [4], [6], []]
def firsts19 : List (List Int) := [[2], [3], [4], [2, 2]]
def tops19 : List (List Int) := [[2], [3]]
theorem g19 : ∀ rs ∈ grps19, OkG rs ∧ rs.foldl (· * ·) 1 ≤ 9 := by
  have d : ∀ rs ∈ grps19, (∀ n ∈ rs, 2 ≤ n) ∧ rs.length ≤ 7 ∧ (∀ n ∈ rs, n ≤ 144) ∧ rs.foldl (· * ·) 1 ≤ 9 := by decide +kernel
  intro rs h
  obtain ⟨a, b, c, e⟩ := d rs h
  exact ⟨⟨⟨a, b⟩, c, by omega⟩, e⟩
theorem u19 : ∀ rs ∈ ups19, OkU rs ∧ apartK ((prs rs).map pkD) = true := by
  have d : ∀ rs ∈ ups19, (∀ n ∈ rs, 2 ≤ n) ∧ rs.length ≤ 7 ∧ (∀ n ∈ rs, n ≤ 144) ∧ rs.foldl (· * ·) 1 ≤ 9 ∧ apartK ((prs rs).map pkD) = true := by decide +kernel
  intro rs h
  obtain ⟨a, b, c, e, f⟩ := d rs h
  exact ⟨⟨⟨⟨a, b⟩, c, by omega⟩, by omega⟩, f⟩
def encI19 (x : List Int) : PyData := .tuple (x.map .int)
def encP19 (p : List Int × List Int) : PyData := .tuple [.tuple (p.1.map .int), .tuple (p.2.map .int)]
theorem srtR : ∀ lo ∈ grps19, ∀ up ∈ ups19, (((mems lo).map fun a => (a, zeroV up)).Pairwise (fun a b => PySem.W.dataLt (.tuple [encI19 b.1, .tuple (b.2.map .int)]) (.tuple [encI19 a.1, .tuple (a.2.map .int)]) = false ∧ PySem.W.dataLt (.tuple [encI19 a.1, .tuple (a.2.map .int)]) (.tuple [encI19 b.1, .tuple (b.2.map .int)]) = true)) ∧
    ((mems lo).map fun a => (a, zeroV up)).all (fun a => tupB (.tuple [encI19 a.1, .tuple (a.2.map .int)]) && decide ((PyData.tuple [encI19 a.1, .tuple (a.2.map .int)]).depth ≤ 50) && ((mems lo).map fun a => (a, zeroV up)).all fun b => PySem.W.alike (.tuple [encI19 a.1, .tuple (a.2.map .int)]) (.tuple [encI19 b.1, .tuple (b.2.map .int)])) = true := by decide +kernel
theorem srtT : ∀ lo ∈ firsts19, ∀ v ∈ tops19, ∀ up ∈ ups19, (((allG (mems lo) v).map fun a => (a, zeroV up)).Pairwise (fun a b => PySem.W.dataLt (.tuple [encP19 b.1, .tuple (b.2.map .int)]) (.tuple [encP19 a.1, .tuple (a.2.map .int)]) = false ∧ PySem.W.dataLt (.tuple [encP19 a.1, .tuple (a.2.map .int)]) (.tuple [encP19 b.1, .tuple (b.2.map .int)]) = true)) ∧
    ((allG (mems lo) v).map fun a => (a, zeroV up)).all (fun a => tupB (.tuple [encP19 a.1, .tuple (a.2.map .int)]) && decide ((PyData.tuple [encP19 a.1, .tuple (a.2.map .int)]).depth ≤ 50) && ((allG (mems lo) v).map fun a => (a, zeroV up)).all fun b => PySem.W.alike (.tuple [encP19 a.1, .tuple (a.2.map .int)]) (.tuple [encP19 b.1, .tuple (b.2.map .int)])) = true := by decide +kernel
def chkR19 (lo : List Int) : Bool := match ixD (.lst ((mems lo).map tuI)) (.int (-1)) with
  | .ok LA => chk19 LA fun d => d_Rounds_has [gR lo, d]
  | _ => false
def chkT19 (lo v : List Int) : Bool := match ixD (.lst ((allG (mems lo) v).map (paG tuI))) (.int (-1)) with
  | .ok LA => chk19 LA fun d => if plainP d = true then .ok (.bl (elT lo v d)) else .bad
  | _ => false
theorem chkR_all : ∀ lo ∈ grps19, chkR19 lo = true := by decide +kernel
theorem chkU_all : ∀ lo ∈ ups19, chkR19 lo = true := by decide +kernel
theorem chkT_all : ∀ lo ∈ firsts19, ∀ v ∈ tops19, chkT19 lo v = true := by decide +kernel
theorem chkR_is {lo : List Int} (h : chkR19 lo = true) : ∃ LA, ixD (.lst ((mems lo).map tuI)) (.int (-1)) = .ok LA ∧ chk19 LA (fun d => d_Rounds_has [gR lo, d]) = true := by
  unfold chkR19 at h
  split at h
  · exact ⟨_, by assumption, h⟩
  · cases h
theorem chk19_mono {LA : D} {f g : D → Res D} (h : chk19 LA f = true) (hfg : ∀ d, f d = .ok (.bl false) → g d = .ok (.bl false)) : chk19 LA g = true := by
  obtain ⟨l, e, hl, ht⟩ := chk19_ok h
  unfold chk19
  rw [e]
  rw [Bool.and_eq_true]
  refine ⟨decide_eq_true hl, List.all_eq_true.mpr fun t hm => ?_⟩
  rw [hfg t (ht t hm)]
theorem toPy_pa {α : Type} {V : α → D} {enc : α → PyData} (h : ∀ a, toPy (V a) = some (enc a)) (p : α × List Int) : toPy (paG V p) = some (.tuple [enc p.1, .tuple (p.2.map .int)]) := by
  show (toPy.toPys [V p.1, tuI p.2]).map PyData.tuple = _
  rw [toPy.toPys, h, toPy.toPys, toPy_tuIB, toPy.toPys]
  rfl
theorem law_ok (ns : List Int) (hl : ns.length ≤ 63) : d_law [.scr ns] = .ok (.bl true) := by
  obtain ⟨k0, ec0⟩ := q_cell_ok ns 0 (by omega) hl (by omega)
  obtain ⟨k1, ec1⟩ := q_cell_ok ns 1 (by omega) hl (by omega)
  obtain ⟨k2, ec2⟩ := q_cell_ok ns 2 (by omega) hl (by omega)
  obtain ⟨k4, ec4⟩ := q_cell_ok ns 4 (by omega) hl (by omega)
  obtain ⟨d1, h1, i1⟩ := ixD_pick (xs := grps19.map tuI) k0 8 rfl (by omega)
  obtain ⟨lo, hlo, rfl⟩ := List.mem_map.mp h1
  obtain ⟨d2, h2, i2⟩ := ixD_pick (xs := ups19.map tuI) k4 6 rfl (by omega)
  obtain ⟨up, hup, rfl⟩ := List.mem_map.mp h2
  have i1 : ixD (.lst [.tup [.int 2], .tup [.int 3], .tup [.int 4], .tup [.int 2, .int 2], .tup [.int 6], .tup [.int 2, .int 4], .tup [], .tup [.int 3, .int 3]]) (.int (k0 % 8)) = .ok (tuI lo) := i1
  have i2 : ixD (.lst [.tup [.int 2], .tup [.int 3], .tup [.int 2, .int 2], .tup [.int 4], .tup [.int 6], .tup []]) (.int (k4 % 6)) = .ok (tuI up) := i2
  obtain ⟨g, p⟩ := g19 lo hlo
  obtain ⟨u, ap⟩ := u19 up hup
  have m0 := modD_ok (i := k0) (j := 8) (by omega)
  have m4 := modD_ok (i := k4) (j := 6) (by omega)
  have m1 := modD_ok (i := k1) (j := 2) (by omega)
  have q1 : 1 ≤ lim := by decide
  have q0 : 0 ≤ lim := by decide
  have q2 : 2 ≤ lim := by decide
  have q4 : 4 ≤ lim := by decide
  have q6 : 6 ≤ lim := by decide
  have q8 : 8 ≤ lim := by decide
  have r1 : D.tup [tuI lo] = rdR lo := rfl
  have chU := chkR_is (chkU_all up hup)
  have fold1 : ∀ rs : List Int, OkG rs → ((mems rs).length : Int) = rs.foldl (· * ·) 1 := fun rs g => mems_len fun n hn => by have := g.ok.two n hn; omega
  refine runD_rt rfl ?_
  simp only [startD, N_law, List.length_cons, List.length_nil, List.map_cons, List.map_nil, Nat.reduceAdd, Nat.reduceSub, Nat.zero_add, List.replicate, List.cons_append, List.nil_append]
  unfold e_law
  refine seq_nx (r1 := [.sh (.scr ns), .sh (rdR lo), .un, .un, .un, .un, .un, .un, .un, .un, .un, .un, .un, .un, .un, .un, .un, .un, .un, .un, .un]) (by
    generalize rdR lo = R at *
    generalize tuI lo = LO at *
    generalize k0 % 8 = z at *
    simp [-ixD_lst, law_s1, q0, q1, q2, q8, ec0, m0, i1, r1]) ?_
  by_cases hb : k1 % 2 = 1
  · have eq : eqD (.int (k1 % 2)) (.int 1) = .ok (.bl true) := by rw [hb]; rfl
    obtain ⟨d3, h3, i3⟩ := ixD_pick (xs := firsts19.map tuI) k0 4 rfl (by omega)
    obtain ⟨fi, hfi, rfl⟩ := List.mem_map.mp h3
    obtain ⟨d4, h4, i4⟩ := ixD_pick (xs := tops19.map tuI) k2 2 rfl (by omega)
    obtain ⟨v, hv, rfl⟩ := List.mem_map.mp h4
    have i3 : ixD (.lst [.tup [.int 2], .tup [.int 3], .tup [.int 4], .tup [.int 2, .int 2]]) (.int (k0 % 4)) = .ok (tuI fi) := i3
    have i4 : ixD (.lst [.tup [.int 2], .tup [.int 3]]) (.int (k2 % 2)) = .ok (tuI v) := i4
    have m04 := modD_ok (i := k0) (j := 4) (by omega)
    have m2 := modD_ok (i := k2) (j := 2) (by omega)
    have hfi' : fi ∈ grps19 := by
      have : ∀ rs ∈ firsts19, rs ∈ grps19 := by decide
      exact this fi hfi
    have hv' : v ∈ ups19 := by
      have : ∀ rs ∈ tops19, rs ∈ ups19 := by decide
      exact this v hv
    obtain ⟨gf, pf⟩ := g19 fi hfi'
    obtain ⟨uv, apv⟩ := u19 v hv'
    have sf : (mems fi).length ≤ 4 := by
      have := fold1 fi gf
      have z : ∀ rs ∈ firsts19, rs.foldl (· * ·) 1 ≤ 4 := by decide
      have := z fi hfi
      omega
    have sv : (mems v).length ≤ 3 := by
      have := fold1 v uv.g
      have z : ∀ rs ∈ tops19, rs.foldl (· * ·) 1 ≤ 3 := by decide
      have := z v hv
      omega
    have E1 := evR gf
    obtain ⟨c, oc, th, sy, el, ti, wi⟩ := floorL (ns := ns) (a0 := 300) E1 (by omega) (by omega) (hiR gf) uv hl (by omega) (by omega) (lwR2 gf).al (lwR2 gf).pl
    have E2 := evT E1 (by omega) (by omega) (by omega) uv oc th sy
    have l12 : (allG (mems fi) v).length ≤ 12 := by rw [allG_len]; exact Nat.mul_le_mul sf sv
    have lw1 := lwT1 E1.L (by omega) uv oc (lwR0 gf) apv ti wi
    have lw2 := lwT2 E1.L (by omega) uv oc (lwR1 gf) apv ti wi
    have has1 : HasF1 (paG tuI) (allG (mems fi) v) (towG tuI (gR fi) v c) := hasT1 (hasR0 (lo := fi))
    have put1 := putT1 E1.L.putE uv oc (putR0 gf)
    have bk1 := backedT1 E1.L.putE uv oc (putR0 gf) (backedR0 gf)
    have mem1 : MemF1 (paG tuI) (allG (mems fi) v) (towG tuI (gR fi) v c) := memT1 (by omega) uv (memR0 gf)
    have hi := hiT E1.L (by omega) uv sy has1 put1 mem1
    obtain ⟨sr, al⟩ := srtT fi hfi v hv up hup
    have rf : D.tup [tuI fi] = rdR fi := rfl
    refine seq_nx (r1 := [.sh (.scr ns), .sh (rdT tuI (rdR fi) v c), .sh (rdR fi), .un, .un, .un, .un, .un, .un, .un, .un, .un, .un, .un, .un, .un, .un, .un, .un, .un, .un]) (by
      generalize rdT tuI (rdR fi) v c = R2 at *
      generalize rdR lo = R at *
      generalize rdR fi = RF at *
      generalize tuI fi = LO at *
      generalize tuI v = VV at *
      generalize k0 % 4 = z at *
      generalize k2 % 2 = z2 at *
      generalize k1 % 2 = z1 at *
      simp [-ixD_lst, -eqD_int, law_s2, law_s2_1, law_s2_2, q0, q1, q2, q4, ec0, ec1, ec2, m04, m2, m1, eq, i3, i4, rf, el]) ?_
    refine seq_nx (r1 := [.sh (.scr ns), .sh (rdT tuI (rdR fi) v c), .sh (rdR fi), .sh (tuI up), .un, .un, .un, .un, .un, .un, .un, .un, .un, .un, .un, .un, .un, .un, .un, .un, .un]) (by
      generalize rdT tuI (rdR fi) v c = R2 at *
      generalize rdR fi = RF at *
      generalize tuI up = U at *
      generalize k4 % 6 = z at *
      simp [-ixD_lst, law_s3, q0, q1, q2, q6, ec4, m4, i2]) ?_
    refine core19 (enc := encP19) E2 (by omega) (by omega) (by omega) hl lw2 lw1 has1 put1 bk1 mem1 hi u ap (toPy_pa (toPy_pa toPy_tuIB)) sr al ?_ chU
    have ct := chkT_all fi hfi v hv
    unfold chkT19 at ct
    split at ct
    · rename_i LA hla
      refine ⟨fun ds => d_Tower_has (towG tuI (gR fi) v c :: ds), LA, rfl, hla, chk19_mono ct fun d hd => ?_⟩
      by_cases hp : plainP d = true
      · rw [if_pos hp] at hd
        have := thas_any (lo := fi) (up := v) (c := c) hp
        have : d_Tower_has [towG tuI (gR fi) v c, d] = .ok (.bl (elT fi v d)) := this
        show d_Tower_has [towG tuI (gR fi) v c, d] = _
        rw [this]
        exact hd
      · rw [if_neg hp] at hd
        cases hd
    · cases ct
  · have eq : eqD (.int (k1 % 2)) (.int 1) = .ok (.bl false) := by
      have : k1 % 2 = 0 := by omega
      rw [this]; rfl
    refine seq_nx (r1 := [.sh (.scr ns), .sh (rdR lo), .un, .un, .un, .un, .un, .un, .un, .un, .un, .un, .un, .un, .un, .un, .un, .un, .un, .un, .un]) (by
      generalize rdR lo = R at *
      generalize k1 % 2 = z1 at *
      simp [-ixD_lst, -eqD_int, law_s2, ec1, m1, eq]) ?_
    refine seq_nx (r1 := [.sh (.scr ns), .sh (rdR lo), .un, .sh (tuI up), .un, .un, .un, .un, .un, .un, .un, .un, .un, .un, .un, .un, .un, .un, .un, .un, .un]) (by
      generalize rdR lo = R at *
      generalize tuI up = U at *
      generalize k4 % 6 = z at *
      simp [-ixD_lst, law_s3, q0, q1, q2, q6, ec4, m4, i2]) ?_
    obtain ⟨sr, al⟩ := srtR lo hlo up hup
    obtain ⟨LA, hla, hc⟩ := chkR_is (chkR_all lo hlo)
    have sf : (mems lo).length ≤ 9 := by
      have := fold1 lo g
      omega
    exact core19 (enc := encI19) (evR g) (by omega) (by omega) (by omega) hl (lwR2 g) (lwR1 g) hasR1 (putR1 g) (backedR1 g) (memR1 g) (hiR g) u ap (toPy_pa toPy_tuIB) sr al ⟨_, LA, rfl, hla, hc⟩ chU
end Mir.K19
open PySem PySem.W PyProof.Rows
theorem PySem.Challenge.cw_carrytower_k19_lying_and_over_holds : PySem.Challenge.rw_carrytower_k19_lying_and_over.Holds := by
  w_on; o_law; k_head; (case hw => w_witness2)
  k_fill
  refine Mir.walk_mir (l := PySem.Challenge.rw_carrytower_k19_lying_and_over) (k := 12) (x := "_law_script") (g := Mir.K19.d_law) rfl rfl ⟨rfl, by decide, by decide⟩ (fun w h Y => by first | exact PySem.W.kIn_of Y | exact PySem.W.km_in_of Y) Mir.K19.law_ok ?F
  case F =>
    intro w mg fa h KX G hmg
    refine' Mir.K19.all_mk KX G hmg ?aC_CarryError ?aC_NoRounds ?aC_NoElement ?aC_NoLower ?aC_NoUpper ?aC_NoCarry ?aC_NoTower ?aC_Group ?aC_Rounds ?aC_Table ?aC_Tower ?a_q_cell ?l_q_cell ?c_q_cell ?k_q_cell ?a_q_elements ?l_q_elements ?c_q_elements ?k_q_elements ?a_q_all ?l_q_all ?c_q_all ?k_q_all ?a_q_plus ?l_q_plus ?c_q_plus ?k_q_plus ?a_q_put ?l_q_put ?c_q_put ?k_q_put ?a_q_zero ?l_q_zero ?c_q_zero ?k_q_zero ?a_q_backs ?l_q_backs ?c_q_backs ?k_q_backs ?a_q_laid ?l_q_laid ?c_q_laid ?k_q_laid ?a_is_whole ?l_is_whole ?c_is_whole ?k_is_whole ?a_are_rounds ?l_are_rounds ?c_are_rounds ?k_are_rounds ?a_Rounds_init ?l_Rounds_init ?c_Rounds_init ?k_Rounds_init ?i_Rounds_init ?a_Rounds_members ?l_Rounds_members ?c_Rounds_members ?k_Rounds_members ?i_Rounds_members ?a_Tower_members ?l_Tower_members ?c_Tower_members ?k_Tower_members ?i_Tower_members ?a_Rounds_has ?l_Rounds_has ?c_Rounds_has ?k_Rounds_has ?i_Rounds_has ?a_Group_look_at ?l_Group_look_at ?c_Group_look_at ?k_Group_look_at ?i_Group_look_at ?a_Rounds_put ?l_Rounds_put ?c_Rounds_put ?k_Rounds_put ?i_Rounds_put ?a_Group_added ?l_Group_added ?c_Group_added ?k_Group_added ?i_Group_added ?a_Tower_has ?l_Tower_has ?c_Tower_has ?k_Tower_has ?i_Tower_has ?a_Table_carry ?l_Table_carry ?c_Table_carry ?k_Table_carry ?i_Table_carry ?a_Tower_put ?l_Tower_put ?c_Tower_put ?k_Tower_put ?i_Tower_put ?a_break_of_three ?l_break_of_three ?c_break_of_three ?k_break_of_three ?a_NoTower_init ?l_NoTower_init ?c_NoTower_init ?k_NoTower_init ?a_Rounds_nought ?l_Rounds_nought ?c_Rounds_nought ?k_Rounds_nought ?i_Rounds_nought ?a_Tower_init ?l_Tower_init ?c_Tower_init ?k_Tower_init ?i_Tower_init ?a_Group_size ?l_Group_size ?c_Group_size ?k_Group_size ?i_Group_size ?a_Rounds_is_even ?l_Rounds_is_even ?c_Rounds_is_even ?k_Rounds_is_even ?i_Rounds_is_even ?a_break_of_two ?l_break_of_two ?c_break_of_two ?k_break_of_two ?a_Tower_is_even ?l_Tower_is_even ?c_Tower_is_even ?k_Tower_is_even ?i_Tower_is_even ?a_look_at_groups ?l_look_at_groups ?c_look_at_groups ?k_look_at_groups ?a_NoCarry_init ?l_NoCarry_init ?c_NoCarry_init ?k_NoCarry_init ?a_Table_init ?l_Table_init ?c_Table_init ?k_Table_init ?i_Table_init ?a_q_made ?l_q_made ?c_q_made ?k_q_made ?a_Rounds_backed ?l_Rounds_backed ?c_Rounds_backed ?k_Rounds_backed ?i_Rounds_backed ?a_Tower_backed ?l_Tower_backed ?c_Tower_backed ?k_Tower_backed ?i_Tower_backed ?a_Tower_nought ?l_Tower_nought ?c_Tower_nought ?k_Tower_nought ?i_Tower_nought ?a_Tower_lying ?l_Tower_lying ?c_Tower_lying ?k_Tower_lying ?i_Tower_lying ?a_Tower_over ?l_Tower_over ?c_Tower_over ?k_Tower_over ?i_Tower_over ?a_q_near ?l_q_near ?c_q_near ?k_q_near ?a_q_refused ?l_q_refused ?c_q_refused ?k_q_refused ?a_law ?l_law ?c_law ?k_law ?z_len ?z_range ?z_tuple ?z_zip ?z_enumerate ?z_isinstance ?z_list ?z_MOST_ROUNDS ?z_int ?z_bool ?z_MOST_ELEMENTS ?ob_NoRounds ?fl_rounds ?fl_lower ?fl_upper ?fl_table ?ob_NoElement ?fl_kept ?xL_NoTower ?rv_NoTower ?ob_NoTower ?tI_NoTower ?no_NoTower_three ?fl_ground ?z_MOST_LOWER ?ob_NoLower ?z_MOST_UPPER ?ob_NoUpper ?xL_NoCarry ?rv_NoCarry ?ob_NoCarry ?tI_NoCarry ?no_NoCarry_y ?no_NoCarry_x ?z_dict ?z_sorted ?z_max ?hIs ?hCt ?mk_Rounds ?kc_Rounds ?mk_Tower ?kc_Tower ?mk_Table ?kc_Table ?am_Rounds_look_at ?am_Tower_look_at ?am_Rounds_added ?am_Tower_added ?am_Rounds_size ?am_Tower_size ?oB
    (case aC_CarryError => k_is)
    (case aC_NoRounds => k_is)
    (case aC_NoElement => k_is)
    (case aC_NoLower => k_is)
    (case aC_NoUpper => k_is)
    (case aC_NoCarry => k_is)
    (case aC_NoTower => k_is)
    (case aC_Group => k_is)
    (case aC_Rounds => k_is)
    (case aC_Table => k_is)
    (case aC_Tower => k_is)
    (case a_q_cell => k_is)
    (case l_q_cell => k_is)
    (case c_q_cell => k_is)
    (case k_q_cell => k_is)
    (case a_q_elements => k_is)
    (case l_q_elements => k_is)
    (case c_q_elements => k_is)
    (case k_q_elements => k_is)
    (case a_q_all => k_is)
    (case l_q_all => k_is)
    (case c_q_all => k_is)
    (case k_q_all => k_is)
    (case a_q_plus => k_is)
    (case l_q_plus => k_is)
    (case c_q_plus => k_is)
    (case k_q_plus => k_is)
    (case a_q_put => k_is)
    (case l_q_put => k_is)
    (case c_q_put => k_is)
    (case k_q_put => k_is)
    (case a_q_zero => k_is)
    (case l_q_zero => k_is)
    (case c_q_zero => k_is)
    (case k_q_zero => k_is)
    (case a_q_backs => k_is)
    (case l_q_backs => k_is)
    (case c_q_backs => k_is)
    (case k_q_backs => k_is)
    (case a_q_laid => k_is)
    (case l_q_laid => k_is)
    (case c_q_laid => k_is)
    (case k_q_laid => k_is)
    (case a_is_whole => k_is)
    (case l_is_whole => k_is)
    (case c_is_whole => k_is)
    (case k_is_whole => k_is)
    (case a_are_rounds => k_is)
    (case l_are_rounds => k_is)
    (case c_are_rounds => k_is)
    (case k_are_rounds => k_is)
    (case a_Rounds_init => k_is)
    (case l_Rounds_init => k_is)
    (case c_Rounds_init => k_is)
    (case k_Rounds_init => k_is)
    (case i_Rounds_init => k_is)
    (case a_Rounds_members => k_is)
    (case l_Rounds_members => k_is)
    (case c_Rounds_members => k_is)
    (case k_Rounds_members => k_is)
    (case i_Rounds_members => k_is)
    (case a_Tower_members => k_is)
    (case l_Tower_members => k_is)
    (case c_Tower_members => k_is)
    (case k_Tower_members => k_is)
    (case i_Tower_members => k_is)
    (case a_Rounds_has => k_is)
    (case l_Rounds_has => k_is)
    (case c_Rounds_has => k_is)
    (case k_Rounds_has => k_is)
    (case i_Rounds_has => k_is)
    (case a_Group_look_at => k_is)
    (case l_Group_look_at => k_is)
    (case c_Group_look_at => k_is)
    (case k_Group_look_at => k_is)
    (case i_Group_look_at => k_is)
    (case a_Rounds_put => k_is)
    (case l_Rounds_put => k_is)
    (case c_Rounds_put => k_is)
    (case k_Rounds_put => k_is)
    (case i_Rounds_put => k_is)
    (case a_Group_added => k_is)
    (case l_Group_added => k_is)
    (case c_Group_added => k_is)
    (case k_Group_added => k_is)
    (case i_Group_added => k_is)
    (case a_Tower_has => k_is)
    (case l_Tower_has => k_is)
    (case c_Tower_has => k_is)
    (case k_Tower_has => k_is)
    (case i_Tower_has => k_is)
    (case a_Table_carry => k_is)
    (case l_Table_carry => k_is)
    (case c_Table_carry => k_is)
    (case k_Table_carry => k_is)
    (case i_Table_carry => k_is)
    (case a_Tower_put => k_is)
    (case l_Tower_put => k_is)
    (case c_Tower_put => k_is)
    (case k_Tower_put => k_is)
    (case i_Tower_put => k_is)
    (case a_break_of_three => k_is)
    (case l_break_of_three => k_is)
    (case c_break_of_three => k_is)
    (case k_break_of_three => k_is)
    (case a_NoTower_init => k_is)
    (case l_NoTower_init => k_is)
    (case c_NoTower_init => k_is)
    (case k_NoTower_init => k_is)
    (case a_Rounds_nought => k_is)
    (case l_Rounds_nought => k_is)
    (case c_Rounds_nought => k_is)
    (case k_Rounds_nought => k_is)
    (case i_Rounds_nought => k_is)
    (case a_Tower_init => k_is)
    (case l_Tower_init => k_is)
    (case c_Tower_init => k_is)
    (case k_Tower_init => k_is)
    (case i_Tower_init => k_is)
    (case a_Group_size => k_is)
    (case l_Group_size => k_is)
    (case c_Group_size => k_is)
    (case k_Group_size => k_is)
    (case i_Group_size => k_is)
    (case a_Rounds_is_even => k_is)
    (case l_Rounds_is_even => k_is)
    (case c_Rounds_is_even => k_is)
    (case k_Rounds_is_even => k_is)
    (case i_Rounds_is_even => k_is)
    (case a_break_of_two => k_is)
    (case l_break_of_two => k_is)
    (case c_break_of_two => k_is)
    (case k_break_of_two => k_is)
    (case a_Tower_is_even => k_is)
    (case l_Tower_is_even => k_is)
    (case c_Tower_is_even => k_is)
    (case k_Tower_is_even => k_is)
    (case i_Tower_is_even => k_is)
    (case a_look_at_groups => k_is)
    (case l_look_at_groups => k_is)
    (case c_look_at_groups => k_is)
    (case k_look_at_groups => k_is)
    (case a_NoCarry_init => k_is)
    (case l_NoCarry_init => k_is)
    (case c_NoCarry_init => k_is)
    (case k_NoCarry_init => k_is)
    (case a_Table_init => k_is)
    (case l_Table_init => k_is)
    (case c_Table_init => k_is)
    (case k_Table_init => k_is)
    (case i_Table_init => k_is)
    (case a_q_made => k_is)
    (case l_q_made => k_is)
    (case c_q_made => k_is)
    (case k_q_made => k_is)
    (case a_Rounds_backed => k_is)
    (case l_Rounds_backed => k_is)
    (case c_Rounds_backed => k_is)
    (case k_Rounds_backed => k_is)
    (case i_Rounds_backed => k_is)
    (case a_Tower_backed => k_is)
    (case l_Tower_backed => k_is)
    (case c_Tower_backed => k_is)
    (case k_Tower_backed => k_is)
    (case i_Tower_backed => k_is)
    (case a_Tower_nought => k_is)
    (case l_Tower_nought => k_is)
    (case c_Tower_nought => k_is)
    (case k_Tower_nought => k_is)
    (case i_Tower_nought => k_is)
    (case a_Tower_lying => k_is)
    (case l_Tower_lying => k_is)
    (case c_Tower_lying => k_is)
    (case k_Tower_lying => k_is)
    (case i_Tower_lying => k_is)
    (case a_Tower_over => k_is)
    (case l_Tower_over => k_is)
    (case c_Tower_over => k_is)
    (case k_Tower_over => k_is)
    (case i_Tower_over => k_is)
    (case a_q_near => k_is)
    (case l_q_near => k_is)
    (case c_q_near => k_is)
    (case k_q_near => k_is)
    (case a_q_refused => k_is)
    (case l_q_refused => k_is)
    (case c_q_refused => k_is)
    (case k_q_refused => k_is)
    (case a_law => k_is)
    (case l_law => k_is)
    (case c_law => k_is)
    (case k_law => k_is)
    (case z_len => k_is)
    (case z_range => k_is)
    (case z_tuple => k_is)
    (case z_zip => k_is)
    (case z_enumerate => k_is)
    (case z_isinstance => k_is)
    (case z_list => k_is)
    (case z_MOST_ROUNDS => k_is)
    (case z_int => k_is)
    (case z_bool => k_is)
    (case z_MOST_ELEMENTS => k_is)
    (case ob_NoRounds => kernel_rfl)
    (case fl_rounds => kernel_rfl)
    (case fl_lower => kernel_rfl)
    (case fl_upper => kernel_rfl)
    (case fl_table => kernel_rfl)
    (case ob_NoElement => kernel_rfl)
    (case fl_kept => kernel_rfl)
    (case xL_NoTower => k_is)
    (case rv_NoTower => decide +kernel)
    (case ob_NoTower => kernel_rfl)
    (case tI_NoTower => k_is)
    (case no_NoTower_three => k_is)
    (case fl_ground => kernel_rfl)
    (case z_MOST_LOWER => k_is)
    (case ob_NoLower => kernel_rfl)
    (case z_MOST_UPPER => k_is)
    (case ob_NoUpper => kernel_rfl)
    (case xL_NoCarry => k_is)
    (case rv_NoCarry => decide +kernel)
    (case ob_NoCarry => kernel_rfl)
    (case tI_NoCarry => k_is)
    (case no_NoCarry_y => k_is)
    (case no_NoCarry_x => k_is)
    (case z_dict => k_is)
    (case z_sorted => k_is)
    (case z_max => k_is)
    (case hIs => kernel_rfl)
    (case hCt => kernel_rfl)
    (case mk_Rounds => k_is)
    (case kc_Rounds => k_is)
    (case mk_Tower => k_is)
    (case kc_Tower => k_is)
    (case mk_Table => k_is)
    (case kc_Table => k_is)
    (case am_Rounds_look_at => k_is)
    (case am_Tower_look_at => k_is)
    (case am_Rounds_added => k_is)
    (case am_Tower_added => k_is)
    (case am_Rounds_size => k_is)
    (case am_Tower_size => k_is)
    (case oB => kernel_rfl)
