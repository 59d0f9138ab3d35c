import PyProof.Rows.All
import Wide.All
import OpenK.AllK
import Wide.FinOn
import HandS.ForMost
import HandS.Lambda
import HandS.ForExc
import HandS.IsInst
import KE.KDictKeyed
import HandS.CallSlots
import HandS.ExcInit
import HandS.Small
import HandS.TupAny
import HandS.TupMul
import HandS.Wide
import HandS.Deep
import HandS.Style
import HandS.Conv
import HandS.ExcIs
import HandS.Walk
import KE.KExcIs
import HandS.TupLen
import HandS.ExcValue
import HandS.ExcField
import HandS.TryMany
import HandS.EndTab
import HandS.Zip
import KE.KDictOf
import KE.KEqDict
import PyProof.EnumMake
import PyProof.Draws
import KE.KDictDisplayH
import PyProof.DictDisplay
import HandS.SortOrd
import HandS.NamedTupSort
import KE.KDictSum
import KE.KDictCopyH
import KE.KDictZip
import HandS.Rev
import HandS.Nested
import KE.SortData
import KE.KEqNest
import PySem.Challenge.RW_carrytower_k14_tables_over_towers
set_option Elab.async false
set_option linter.all false
set_option maxRecDepth 100000
namespace Mir
open PySem PySem.Spec PyProof.Rows L2
/-- data -/
inductive D where
  | non | bl (b : Bool) | int (i : Int) | str (s : Str)
  | tup (xs : List D) | lst (xs : List D)
  | scr (ns : List Int)
  | dic (ks : List D) (vs : List D)
  | obj (c : Nat) (vs : List D)
  | exc (c : Nat) (vs : List D)
  | cls (c : Nat) | ty (n : String)
  deriving Inhabited
/-- the classes by numbers: their names, their attributes in order -/
def cname : Nat → Str
  | 0 => "Rounds" | 1 => "Tower" | 2 => "Table" | 3 => "Map" | 4 => "Desk" | 5 => "Group"
  | 10 => "CarryError" | 11 => "NoRounds" | 12 => "NoElement" | 13 => "NoLower" | 14 => "NoUpper" | 15 => "NoHead" | 16 => "NotLike" | 17 => "NoCount" | 18 => "NoPair"
  | 19 => "NoKind" | 20 => "NoLine" | 21 => "NothingDone" | 22 => "NoText" | 23 => "NoCarry" | 24 => "NoTower" | 25 => "Uneven" | 26 => "NoRelabeling" | 27 => "TooMany" | 28 => "NoMap" | 29 => "NoName"
  | _ => ""
def cflds : Nat → List Str
  | 0 => ["rounds"] | 1 => ["table", "ground"] | 2 => ["lower", "upper", "kept"] | 3 => ["source", "goal", "images"] | 4 => ["kept", "past"]
  | 22 => ["at"] | 23 => ["y", "x"] | 24 => ["three"] | 25 => ["two"] | 26 => ["x"] | 27 => ["many"] | 28 => ["head"] | 29 => ["name"]
  | _ => []
inductive Res (α : Type) where
  | ok (a : α) | er (e : D) | bad
@[inline] def Res.bind {α β : Type} (r : Res α) (f : α → Res β) : Res β := match r with
  | .ok a => f a
  | .er e => .er e
  | .bad => .bad
instance : Monad Res where
  pure := .ok
  bind := Res.bind
@[simp] theorem ok_bind {α β : Type} (a : α) (f : α → Res β) : (Res.ok a >>= f) = f a := rfl
@[simp] theorem er_bind {α β : Type} (e : D) (f : α → Res β) : ((Res.er e : Res α) >>= f) = .er e := rfl
@[simp] theorem bad_bind {α β : Type} (f : α → Res β) : ((Res.bad : Res α) >>= f) = .bad := rfl
@[simp] theorem pure_ok {α : Type} (a : α) : (pure a : Res α) = .ok a := rfl
/-- the ground: what the module has written -/
structure GC where
  P : Program
  w : World
  K : PySem.W.Frag
  mg : Str → Option Value
/-- where the class stands -/
def GC.ca (G : GC) (c : Nat) : Addr := match G.mg (cname c) with
  | some (.ref C) => C
  | _ => 0
abbrev gOf (X : Cx) : GC := ⟨X.prog, X.w, X.K, X.mg⟩
/-- a datum as a key -/
def keyOf : D → Option NestedKey
  | .non => some .none
  | .bl b => some (.num (if b = true then 1 else 0))
  | .int i => some (.num i)
  | .str s => some (.text s)
  | .tup xs => (keysOf xs).map .tup
  | _ => none
where keysOf : List D → Option (List NestedKey)
  | [] => some []
  | x :: xs => match keyOf x, keysOf xs with
    | some k, some ks => some (k :: ks)
    | _, _ => none
/-- at a stands a dict with the entries' keys at addresses and values -/
structure DicO (G : GC) (o : Obj) (xs : List (NestedKey × Addr × Value)) : Prop where
  ex : o.ExactDict
  dat : ∃ es ep, o.data = .dict es ep ∧ es.toList = xs.map (entryOfKey (nestedKind G.P G.w))
  nd : (xs.map (·.1)).Nodup
  dp : ∀ x ∈ xs, x.1.depth ≤ 8
  sz : xs.length ≤ sizeLine
def isObj' (a : Addr) (o : Obj) : Heap → Prop := fun h => h.get? a = some o
def isExc (a : Addr) (C : Addr) (d : Option Addr) : Heap → Prop := fun h => ∃ oe vs, h.get? a = some oe ∧ oe.cls = .ref C ∧ oe.dict = d ∧ oe.data = .fields vs
mutual
/-- v bears d in F -/
inductive Rep (G : GC) (F : Hp) : V → D → Prop
  | non : Rep G F .non .non
  | bl (b : Bool) : Rep G F (.bl b) (.bl b)
  | int (i : Int) : Rep G F (.int i) (.int i)
  | str (s : Str) : Rep G F (.str s) (.str s)
  | tup {a : Addr} {vs : List V} {ds : List D} : SqT G.K F a vs → RepAll G F vs ds → Rep G F (.ref a) (.tup ds)
  | lst {a : Addr} {vs : List V} {ds : List D} : F a = some (.lst vs) → RepAll G F vs ds → Rep G F (.ref a) (.lst ds)
  | scr {a : Addr} {ns : List Int} : SqL G.K F a (ns.map V.int) → Rep G F (.ref a) (.scr ns)
  | dic {a : Addr} {o : Obj} {xs : List (NestedKey × Addr × Value)} {ws : List V} {ks vs : List D} : F a = some (.ext (isObj' a o)) → (a == sysModules) = false → DicO G o xs → Vals ws (xs.map (·.2.2)) →
      RepAll G F (xs.map fun x => V.ref x.2.1) ks → ks.map keyOf = xs.map (fun x => some x.1) → RepAll G F ws vs → Rep G F (.ref a) (.dic ks vs)
  | obj {a dx : Addr} {c : Nat} {ws : List V} {vs : List D} : F a = some (.ins (G.ca c) dx ((cflds c).zip ws)) → ws.length ≤ (cflds c).length → RepAll G F ws vs → Rep G F (.ref a) (.obj c vs)
  | exc {a : Addr} {c : Nat} : F a = some (.ext (isExc a (G.ca c) none)) → cflds c = [] → Rep G F (.ref a) (.exc c [])
  | excF {a dx : Addr} {c : Nat} {ws : List V} {vs : List D} : F a = some (.ext (isExc a (G.ca c) (some dx))) → F dx = some (.xd ((cflds c).zip ws)) → ws.length = (cflds c).length → RepAll G F ws vs → Rep G F (.ref a) (.exc c vs)
  | cls {C : Addr} {c : Nat} : G.mg (cname c) = some (.ref C) → Rep G F (.ref C) (.cls c)
  | ty (n : String) : Rep G F (.ty n) (.ty n)
inductive RepAll (G : GC) (F : Hp) : List V → List D → Prop
  | nil : RepAll G F [] []
  | cons {v : V} {d : D} {vs : List V} {ds : List D} : Rep G F v d → RepAll G F vs ds → RepAll G F (v :: vs) (d :: ds)
end
theorem Same.sqT {K : PySem.W.Frag} {H H' : Hp} {a : Addr} {xs : List V} (e : Same H H') (h : SqT K H a xs) : SqT K H' a xs := by
  rcases h with (h | ⟨o, h⟩) | h
  · exact .inl (.inl (e _ _ h))
  · exact .inl (.inr ⟨o, e _ _ h⟩)
  · exact .inr h
mutual
theorem Rep.mono {G : GC} {F F' : Hp} (s : Same F F') : ∀ {v : V} {d : D}, Rep G F v d → Rep G F' v d
  | _, _, .non => .non
  | _, _, .bl b => .bl b
  | _, _, .int i => .int i
  | _, _, .str x => .str x
  | _, _, .tup h r => .tup (Same.sqT s h) (RepAll.mono s r)
  | _, _, .lst h r => .lst (s _ _ h) (RepAll.mono s r)
  | _, _, .scr h => .scr (s.seq h)
  | _, _, .dic h1 h2 h3 h4 h5 h6 h7 => .dic (s _ _ h1) h2 h3 h4 (RepAll.mono s h5) h6 (RepAll.mono s h7)
  | _, _, .obj h z r => .obj (s _ _ h) z (RepAll.mono s r)
  | _, _, .exc h z => .exc (s _ _ h) z
  | _, _, .excF h1 h2 z r => .excF (s _ _ h1) (s _ _ h2) z (RepAll.mono s r)
  | _, _, .cls h => .cls h
  | _, _, .ty n => .ty n
theorem RepAll.mono {G : GC} {F F' : Hp} (s : Same F F') : ∀ {vs : List V} {ds : List D}, RepAll G F vs ds → RepAll G F' vs ds
  | _, _, .nil => .nil
  | _, _, .cons r t => .cons (Rep.mono s r) (RepAll.mono s t)
end
section
variable {G : GC} {F : Hp}
theorem RepAll.length : ∀ {vs : List V} {ds : List D}, RepAll G F vs ds → vs.length = ds.length
  | _, _, .nil => rfl
  | _, _, .cons _ t => congrArg (· + 1) (RepAll.length t)
theorem RepAll.get : ∀ {vs : List V} {ds : List D} {i : Nat} {d : D}, RepAll G F vs ds → ds[i]? = some d → ∃ v, vs[i]? = some v ∧ Rep G F v d
  | _, _, _, _, .nil, e => by simp at e
  | _, _, 0, _, .cons r _, e => by simp at e; subst e; exact ⟨_, rfl, r⟩
  | _, _, i + 1, d, .cons _ t, e => by
    obtain ⟨v, h1, h2⟩ := RepAll.get (i := i) (d := d) t (by simpa using e)
    exact ⟨v, by simpa using h1, h2⟩
theorem RepAll.getV : ∀ {vs : List V} {ds : List D} {i : Nat} {v : V}, RepAll G F vs ds → vs[i]? = some v → ∃ d, ds[i]? = some d ∧ Rep G F v d
  | _, _, _, _, .nil, e => by simp at e
  | _, _, 0, _, .cons r _, e => by simp at e; subst e; exact ⟨_, rfl, r⟩
  | _, _, i + 1, v, .cons _ t, e => by
    obtain ⟨d, h1, h2⟩ := RepAll.getV (i := i) (v := v) t (by simpa using e)
    exact ⟨d, by simpa using h1, h2⟩
theorem RepAll.append : ∀ {vs ws : List V} {ds es : List D}, RepAll G F vs ds → RepAll G F ws es → RepAll G F (vs ++ ws) (ds ++ es)
  | _, _, _, _, .nil, s => s
  | _, _, _, _, .cons r t, s => .cons r (RepAll.append t s)
theorem RepAll.set {v : V} {d : D} (r : Rep G F v d) : ∀ {vs : List V} {ds : List D} (i : Nat), RepAll G F vs ds → RepAll G F (vs.set i v) (ds.set i d)
  | _, _, _, .nil => .nil
  | _, _, 0, .cons _ t => .cons r t
  | _, _, i + 1, .cons q t => .cons q (RepAll.set r i t)
theorem RepAll.take : ∀ {vs : List V} {ds : List D} (n : Nat), RepAll G F vs ds → RepAll G F (vs.take n) (ds.take n)
  | _, _, 0, _ => .nil
  | _, _, _ + 1, .nil => .nil
  | _, _, n + 1, .cons r t => .cons r (RepAll.take n t)
theorem RepAll.drop : ∀ {vs : List V} {ds : List D} (n : Nat), RepAll G F vs ds → RepAll G F (vs.drop n) (ds.drop n)
  | _, _, 0, r => r
  | _, _, _ + 1, .nil => .nil
  | _, _, n + 1, .cons _ t => RepAll.drop n t
theorem RepAll.reverse : ∀ {vs : List V} {ds : List D}, RepAll G F vs ds → RepAll G F vs.reverse ds.reverse
  | _, _, .nil => .nil
  | _, _, .cons r t => by
    rw [List.reverse_cons, List.reverse_cons]
    exact RepAll.append (RepAll.reverse t) (.cons r .nil)
end
inductive Shape where
  | sh
  | flat
  | parts (l : List Shape)
  | opts (l : List Shape)
/-- the shape of the i-th part -/
def Shape.kid : Shape → Nat → Shape
  | .parts l, i => l.getD i .sh
  | .opts l, i => l.getD i .sh
  | _, _ => .sh
def Shape.pts : Shape → Bool
  | .parts _ => true
  | .opts _ => true
  | _ => false
def Shape.own : Shape → Bool
  | .sh => false
  | _ => true
mutual
/-- nothing that can be changed, at no depth -/
def soft : D → Bool
  | .non => true
  | .bl _ => true
  | .int _ => true
  | .str _ => true
  | .tup ds => softs ds
  | _ => false
def softs : List D → Bool
  | [] => true
  | d :: ds => soft d && softs ds
end
mutual
/-- v bears d, its own parts stand in H at A, the others in F -/
inductive Own (G : GC) (F H : Hp) : Shape → V → D → List Addr → Prop
  | sh {v : V} {d : D} : Rep G F v d → Own G F H .sh v d []
  | lst {s : Shape} {a : Addr} {vs : List V} {ds : List D} {A : List Addr} : s.own = true → H a = some (.lst vs) → F a = none → OwnAll G F H s.kid 0 vs ds A → a ∉ A → Own G F H s (.ref a) (.lst ds) (a :: A)
  | tup {s : Shape} {a : Addr} {vs : List V} {ds : List D} {A : List Addr} : s.pts = true → H a = some (.tup vs) → F a = none → OwnAll G F H s.kid 0 vs ds A → a ∉ A → Own G F H s (.ref a) (.tup ds) (a :: A)
  | dic {s : Shape} {a : Addr} {o : Obj} {xs : List (NestedKey × Addr × Value)} {ws : List V} {ks vs : List D} {A : List Addr} : s.own = true → H a = some (.ext (isObj' a o)) → F a = none → (a == sysModules) = false → DicO G o xs → Vals ws (xs.map (·.2.2)) →
      RepAll G F (xs.map fun x => V.ref x.2.1) ks → ks.map keyOf = xs.map (fun x => some x.1) → OwnAll G F H s.kid 0 ws vs A → a ∉ A → Own G F H s (.ref a) (.dic ks vs) (a :: A)
  | obj {s : Shape} {a dx : Addr} {c : Nat} {ws : List V} {vs : List D} {A : List Addr} : s.own = true → H a = some (.ins (G.ca c) dx ((cflds c).zip ws)) → F a = none → ws.length ≤ (cflds c).length → OwnAll G F H s.kid 0 ws vs A → a ∉ A →
      Own G F H s (.ref a) (.obj c vs) (a :: A)
  | opt {l : List Shape} {v : V} {ds : List D} : Rep G F v (.tup ds) → (∀ n d, ds[n]? = some d → ((Shape.opts l).kid n).own = true → soft d = true) → Own G F H (.opts l) v (.tup ds) []
inductive OwnAll (G : GC) (F H : Hp) : (Nat → Shape) → Nat → List V → List D → List Addr → Prop
  | nil {f : Nat → Shape} {n : Nat} : OwnAll G F H f n [] [] []
  | cons {f : Nat → Shape} {n : Nat} {v : V} {d : D} {vs : List V} {ds : List D} {A B : List Addr} : Own G F H (f n) v d A → OwnAll G F H f (n + 1) vs ds B → (∀ a ∈ A, a ∉ B) → OwnAll G F H f n (v :: vs) (d :: ds) (A ++ B)
end
/-- no code table -/
def Nt (o : HO) : Prop := ∀ ps, o ≠ .tbl ps
/-- the name that the code objects of a table bear -/
class Tn where
  q : Addr → Str
  l : List Addr
variable [Tn]
/-- a code object of the name q -/
def isCode (oc : Obj) (q : Str) : Prop := ∃ (vs : Array Value) (t : Tok), oc.data = .fields vs ∧ vs[1]? = some (.str q t)
abbrev frzO (o : Obj) : HO := .frz o (.ext fun _ => True)
/-- the table of code objects at P: each one that it tells is shared and bears its name -/
def TabF (F H : Hp) (P : Addr) : Prop :=
  F P = none ∧ ∃ ps : Array Value, H P = some (.tbl ps) ∧ TriplesOk ps.toList ∧ ∀ (pos : Pos) (cv : Value), codeAmong pos ps.toList = some cv → ∃ c oc, cv = .ref c ∧ F c = some (frzO oc) ∧ isCode oc (Tn.q P)
/-- all tables -/
def Tt (F H : Hp) : Prop := ∀ P ∈ Tn.l, TabF F H P
/-- no address is free any more that was not -/
def Fre (H H' : Hp) : Prop := ∀ a, H' a = none → H a = none
theorem _root_.L2.Same.fre {H H' : Hp} (s : Same H H') : Fre H H' := fun _ e => s.free e
theorem Fre.trans {H H1 H2 : Hp} (a : Fre H H1) (b : Fre H1 H2) : Fre H H2 := fun c e => a c (b c e)
/-- all but the tables of code objects stays; they grow -/
structure Stays (F H F' H' : Hp) : Prop where
  at' : ∀ a o, H a = some o → Nt o → H' a = some o
  tb : ∀ P ps, H P = some (.tbl ps) → ∃ ps', H' P = some (.tbl ps')
  tf : ∀ P, TabF F H P → TabF F' H' P
theorem Stays.tt {F H F' H' : Hp} (s : Stays F H F' H') (t : Tt F H) : Tt F' H' := fun P h => s.tf P (t P h)
section
variable {F H F' H' F1 H1 F2 H2 : Hp}
theorem Stays.at (s : Stays F H F' H') (a : Addr) (o : HO) (h : H a = some o) (n : Nt o := by intro _ z; cases z) : H' a = some o := s.at' a o h n
theorem Stays.fre (s : Stays F H F' H') : Fre H H' := fun a e => by
  cases q : H a with
  | none => rfl
  | some o =>
    by_cases h : ∃ ps, o = .tbl ps
    · obtain ⟨ps, rfl⟩ := h
      obtain ⟨ps', z⟩ := s.tb a ps q
      rw [e] at z; cases z
    · have := s.at' a o q fun ps z => h ⟨ps, z⟩
      rw [e] at this; cases this
theorem Stays.free (s : Stays F H F' H') {a : Addr} (e : H' a = none) : H a = none := s.fre a e
theorem Stays.of (h : Same H H') (f : Same F F') (n : ∀ a o, F' a = some o → F a = some o ∨ H a = none) : Stays F H F' H' where
  at' := fun a o e _ => h a o e
  tb := fun P ps e => ⟨ps, h P _ e⟩
  tf := fun P ⟨h0, ps, h1, h2, h3⟩ => by
    refine ⟨?_, ps, h P _ h1, h2, fun pos cv e => ?_⟩
    · cases e : F' P with
      | none => rfl
      | some o =>
        rcases n P o e with z | z
        · rw [h0] at z
          cases z
        · rw [h1] at z
          cases z
    · obtain ⟨c, oc, a, b, z⟩ := h3 pos cv e
      exact ⟨c, oc, a, f c _ b, z⟩
theorem Stays.refl : Stays F H F H := ⟨fun _ _ e _ => e, fun _ ps e => ⟨ps, e⟩, fun _ h => h⟩
theorem Stays.trans (a : Stays F H F1 H1) (b : Stays F1 H1 F2 H2) : Stays F H F2 H2 :=
  ⟨fun x o e n => b.at' x o (a.at' x o e n) n, fun P ps e => let ⟨ps1, e1⟩ := a.tb P ps e; b.tb P ps1 e1, fun P h => b.tf P (a.tf P h)⟩
/-- a new thing, or one's own, is written -/
theorem Stays.upd {x : Addr} {o : HO} (s : Stays F H F' H') (hx : H x = none) : Stays F H F' (upd H' x o) where
  at' := fun b u e n => by rw [upd_ne (ne_of_none e hx)]; exact s.at' b u e n
  tb := fun P ps e => by rw [upd_ne (ne_of_none e hx)]; exact s.tb P ps e
  tf := fun P h => by
    obtain ⟨_, _, e, _⟩ := id h
    obtain ⟨h0, ps, h1, h2⟩ := s.tf P h
    exact ⟨h0, ps, by rw [upd_ne (ne_of_none e hx)]; exact h1, h2⟩
end
/-- without the tables -/
def nT (H : Hp) : Hp := fun a => match H a with
  | some (.tbl _) => none
  | o => o
theorem nT_at {H : Hp} {a : Addr} {o : HO} (h : H a = some o) (n : Nt o := by intro _ z; cases z) : nT H a = some o := by
  unfold nT
  rw [h]
  cases o <;> first | rfl | exact absurd rfl (n _)
theorem nT_of {H : Hp} {a : Addr} {o : HO} (h : nT H a = some o) : H a = some o ∧ Nt o := by
  unfold nT at h
  split at h
  · cases h
  · rename_i q
    exact ⟨h, fun ps z => by subst z; exact q ps h⟩
theorem Stays.nT {F H F' H' : Hp} (s : Stays F H F' H') : Same (Mir.nT H) H' := fun a o e => s.at' a o (nT_of e).1 (nT_of e).2
theorem rd_nT {H : Hp} {a : Addr} {o : HO} (n : Nt o) (h : Rd H a o) : Rd (nT H) a o := by
  rcases h with h | ⟨u, h⟩
  · exact .inl (nT_at h n)
  · exact .inr ⟨u, nT_at h⟩
theorem sqL_nT {K : PySem.W.Frag} {H : Hp} {a : Addr} {xs : List V} (h : SqL K H a xs) : SqL K (nT H) a xs := h.imp (rd_nT (by intro _ z; cases z)) id
/-- what grows: the heap, the shared part; nothing old becomes shared -/
structure Grow (F H F' H' : Hp) : Prop where
  h : Stays F H F' H'
  f : Same F F'
  sub : Same F' H'
  new : ∀ a o, F' a = some o → F a = some o ∨ H a = none
theorem Grow.of {F H F' H' : Hp} (h : Same H H') (f : Same F F') (sub : Same F' H') (new : ∀ a o, F' a = some o → F a = some o ∨ H a = none) : Grow F H F' H' := ⟨.of h f new, f, sub, new⟩
theorem Grow.refl {F H : Hp} (s : Same F H) : Grow F H F H := ⟨Stays.refl, Same.refl _, s, fun _ _ e => .inl e⟩
theorem Grow.trans {F H F1 H1 F2 H2 : Hp} (a : Grow F H F1 H1) (b : Grow F1 H1 F2 H2) : Grow F H F2 H2 :=
  ⟨a.h.trans b.h, a.f.trans b.f, b.sub, fun x o e => (b.new x o e).elim (fun q => a.new x o q) fun q => .inr (a.h.free q)⟩
/-- what stays of the own parts -/
structure Keep (A : List Addr) (F H F' H' : Hp) : Prop where
  h : ∀ a ∈ A, ∀ o, H a = some o → H' a = some o
  f : Same F F'
  n : ∀ a ∈ A, F a = none → F' a = none
theorem Grow.keep {F H F' H' : Hp} (g : Grow F H F' H') {A : List Addr} (hA : ∀ a ∈ A, ∃ o, H a = some o) (hn : ∀ a ∈ A, ∀ ps, H a ≠ some (.tbl ps)) : Keep A F H F' H' :=
  ⟨fun a ha o e => g.h.at' a o e fun ps z => hn a ha ps (z ▸ e), g.f, fun a ha e => by
    cases q : F' a with
    | none => rfl
    | some o =>
      rcases g.new a o q with z | z
      · rw [e] at z; cases z
      · obtain ⟨o', e'⟩ := hA a ha
        rw [z] at e'; cases e'⟩
section
variable {G : GC} {F H F' H' : Hp}
mutual
theorem Own.keep : ∀ {s : Shape} {v : V} {d : D} {A : List Addr}, Own G F H s v d A → Keep A F H F' H' → Own G F' H' s v d A
  | _, _, _, _, .sh r, k => .sh (r.mono k.f)
  | _, _, _, _, .lst h0 h1 h2 h3 h4, k => .lst h0 (k.h _ List.mem_cons_self _ h1) (k.n _ List.mem_cons_self h2) (OwnAll.keep h3 ⟨fun a ha => k.h a (List.mem_cons_of_mem _ ha), k.f, fun a ha => k.n a (List.mem_cons_of_mem _ ha)⟩) h4
  | _, _, _, _, .tup h0 h1 h2 h3 h4, k => .tup h0 (k.h _ List.mem_cons_self _ h1) (k.n _ List.mem_cons_self h2) (OwnAll.keep h3 ⟨fun a ha => k.h a (List.mem_cons_of_mem _ ha), k.f, fun a ha => k.n a (List.mem_cons_of_mem _ ha)⟩) h4
  | _, _, _, _, .dic h0 h1 h2 z1 z2 z3 z4 z5 h3 h4, k => .dic h0 (k.h _ List.mem_cons_self _ h1) (k.n _ List.mem_cons_self h2) z1 z2 z3 (z4.mono k.f) z5 (OwnAll.keep h3 ⟨fun a ha => k.h a (List.mem_cons_of_mem _ ha), k.f, fun a ha => k.n a (List.mem_cons_of_mem _ ha)⟩) h4
  | _, _, _, _, .obj h0 h1 h2 z h3 h4, k => .obj h0 (k.h _ List.mem_cons_self _ h1) (k.n _ List.mem_cons_self h2) z (OwnAll.keep h3 ⟨fun a ha => k.h a (List.mem_cons_of_mem _ ha), k.f, fun a ha => k.n a (List.mem_cons_of_mem _ ha)⟩) h4
  | _, _, _, _, .opt r h, k => .opt (r.mono k.f) h
theorem OwnAll.keep : ∀ {f : Nat → Shape} {n : Nat} {vs : List V} {ds : List D} {A : List Addr}, OwnAll G F H f n vs ds A → Keep A F H F' H' → OwnAll G F' H' f n vs ds A
  | _, _, _, _, _, .nil, _ => .nil
  | _, _, _, _, _, .cons r t x, k => .cons (Own.keep r ⟨fun a ha => k.h a (List.mem_append_left _ ha), k.f, fun a ha => k.n a (List.mem_append_left _ ha)⟩)
      (OwnAll.keep t ⟨fun a ha => k.h a (List.mem_append_right _ ha), k.f, fun a ha => k.n a (List.mem_append_right _ ha)⟩) x
end
mutual
theorem Own.there : ∀ {s : Shape} {v : V} {d : D} {A : List Addr}, Own G F H s v d A → ∀ a ∈ A, F a = none ∧ ∃ o, H a = some o
  | _, _, _, _, .sh _, _, h => nomatch h
  | _, _, _, _, .lst _ h1 h2 h3 _, a, h => (List.mem_cons.mp h).elim (fun e => by subst e; exact ⟨h2, _, h1⟩) (OwnAll.there h3 a)
  | _, _, _, _, .tup _ h1 h2 h3 _, a, h => (List.mem_cons.mp h).elim (fun e => by subst e; exact ⟨h2, _, h1⟩) (OwnAll.there h3 a)
  | _, _, _, _, .dic _ h1 h2 _ _ _ _ _ h3 _, a, h => (List.mem_cons.mp h).elim (fun e => by subst e; exact ⟨h2, _, h1⟩) (OwnAll.there h3 a)
  | _, _, _, _, .obj _ h1 h2 _ h3 _, a, h => (List.mem_cons.mp h).elim (fun e => by subst e; exact ⟨h2, _, h1⟩) (OwnAll.there h3 a)
theorem OwnAll.there : ∀ {f : Nat → Shape} {n : Nat} {vs : List V} {ds : List D} {A : List Addr}, OwnAll G F H f n vs ds A → ∀ a ∈ A, F a = none ∧ ∃ o, H a = some o
  | _, _, _, _, _, .nil, _, h => nomatch h
  | _, _, _, _, _, .cons r t _, a, h => (List.mem_append.mp h).elim (Own.there r a) (OwnAll.there t a)
end
mutual
theorem Own.nt : ∀ {s : Shape} {v : V} {d : D} {A : List Addr}, Own G F H s v d A → ∀ a ∈ A, ∀ ps, H a ≠ some (.tbl ps)
  | _, _, _, _, .sh _, _, h => nomatch h
  | _, _, _, _, .lst _ h1 h2 h3 _, a, h => (List.mem_cons.mp h).elim (fun e ps z => by subst e; rw [h1] at z; cases z) (OwnAll.nt h3 a)
  | _, _, _, _, .tup _ h1 h2 h3 _, a, h => (List.mem_cons.mp h).elim (fun e ps z => by subst e; rw [h1] at z; cases z) (OwnAll.nt h3 a)
  | _, _, _, _, .dic _ h1 h2 _ _ _ _ _ h3 _, a, h => (List.mem_cons.mp h).elim (fun e ps z => by subst e; rw [h1] at z; cases z) (OwnAll.nt h3 a)
  | _, _, _, _, .obj _ h1 h2 _ h3 _, a, h => (List.mem_cons.mp h).elim (fun e ps z => by subst e; rw [h1] at z; cases z) (OwnAll.nt h3 a)
theorem OwnAll.nt : ∀ {f : Nat → Shape} {n : Nat} {vs : List V} {ds : List D} {A : List Addr}, OwnAll G F H f n vs ds A → ∀ a ∈ A, ∀ ps, H a ≠ some (.tbl ps)
  | _, _, _, _, _, .nil, _, h => nomatch h
  | _, _, _, _, _, .cons r t _, a, h => (List.mem_append.mp h).elim (Own.nt r a) (OwnAll.nt t a)
end
theorem Own.grow {s : Shape} {v : V} {d : D} {A : List Addr} (o : Own G F H s v d A) (g : Grow F H F' H') : Own G F' H' s v d A := o.keep (g.keep (fun a ha => (o.there a ha).2) o.nt)
/-- the own parts become shared -/
def share (F H : Hp) (A : List Addr) : Hp := fun b => if b ∈ A then H b else F b
theorem share_sub (s : Same F H) (A : List Addr) : Same (share F H A) H := fun b o e => by
  unfold share at e
  split at e
  · exact e
  · exact s b o e
theorem share_same (s : Same F H) (A : List Addr) : Same F (share F H A) := fun b o e => by
  unfold share
  split
  · exact s b o e
  · exact e
/-- .. and nothing else changes -/
theorem Stays.share {A : List Addr} (st : Stays F H F' H') (sub : Same F' H') (hn : ∀ a ∈ A, ∀ ps, H' a ≠ some (.tbl ps)) : Stays F H (share F' H' A) H' := ⟨st.at', st.tb, fun P h => by
  obtain ⟨h0, ps, h1, h2, h3⟩ := st.tf P h
  have hP : P ∉ A := fun z => hn P z ps h1
  refine ⟨by unfold Mir.share; rw [if_neg hP]; exact h0, ps, h1, h2, fun pos cv e => ?_⟩
  obtain ⟨c, oc, a, b, z⟩ := h3 pos cv e
  exact ⟨c, oc, a, share_same sub A c _ b, z⟩⟩
theorem share_at {A : List Addr} {a : Addr} (h : a ∈ A) : share F H A a = H a := if_pos h
theorem share_ne {A : List Addr} {a : Addr} (h : a ∉ A) : share F H A a = F a := if_neg h
mutual
theorem Own.rep (s : Same F H) : ∀ {sp : Shape} {v : V} {d : D} {A : List Addr}, Own G F H sp v d A → ∀ B : List Addr, (∀ a ∈ A, a ∈ B) → Rep G (share F H B) v d
  | _, _, _, _, .sh r, B, _ => r.mono (share_same s B)
  | _, _, _, _, .lst _ h1 _ h3 _, B, hB => .lst ((share_at (hB _ List.mem_cons_self)).trans h1) (OwnAll.rep s h3 B fun a ha => hB a (List.mem_cons_of_mem _ ha))
  | _, _, _, _, .tup _ h1 _ h3 _, B, hB => .tup (.of ((share_at (hB _ List.mem_cons_self)).trans h1)) (OwnAll.rep s h3 B fun a ha => hB a (List.mem_cons_of_mem _ ha))
  | _, _, _, _, .dic _ h1 _ z1 z2 z3 z4 z5 h3 _, B, hB => .dic ((share_at (hB _ List.mem_cons_self)).trans h1) z1 z2 z3 (z4.mono (share_same s B)) z5 (OwnAll.rep s h3 B fun a ha => hB a (List.mem_cons_of_mem _ ha))
  | _, _, _, _, .obj _ h1 _ z h3 _, B, hB => .obj ((share_at (hB _ List.mem_cons_self)).trans h1) z (OwnAll.rep s h3 B fun a ha => hB a (List.mem_cons_of_mem _ ha))
  | _, _, _, _, .opt r _, B, _ => r.mono (share_same s B)
theorem OwnAll.rep (s : Same F H) : ∀ {f : Nat → Shape} {n : Nat} {vs : List V} {ds : List D} {A : List Addr}, OwnAll G F H f n vs ds A → ∀ B : List Addr, (∀ a ∈ A, a ∈ B) → RepAll G (share F H B) vs ds
  | _, _, _, _, _, .nil, _, _ => .nil
  | _, _, _, _, _, .cons r t _, B, hB => .cons (Own.rep s r B fun a ha => hB a (List.mem_append_left _ ha)) (OwnAll.rep s t B fun a ha => hB a (List.mem_append_right _ ha))
end
theorem OwnAll.of_rep : ∀ {vs : List V} {ds : List D} {n : Nat}, RepAll G F vs ds → OwnAll G F H (fun _ => .sh) n vs ds []
  | _, _, _, .nil => .nil
  | _, _, _, .cons r t => OwnAll.cons (A := []) (B := []) (.sh r) (OwnAll.of_rep t) (fun _ z => nomatch z)
theorem OwnAll.to_rep : ∀ {vs : List V} {ds : List D} {n : Nat} {A : List Addr}, OwnAll G F H (fun _ => .sh) n vs ds A → A = [] ∧ RepAll G F vs ds
  | _, _, _, _, .nil => ⟨rfl, .nil⟩
  | _, _, _, _, .cons r t _ => by
    cases r with
    | sh r =>
      obtain ⟨e, t'⟩ := OwnAll.to_rep t
      subst e
      exact ⟨rfl, .cons r t'⟩
    | lst h => cases h
    | tup h => cases h
    | dic h => cases h
    | obj h => cases h
end
end Mir
namespace Mir
open PySem PySem.Spec PyProof.Rows L2
variable [Tn]
inductive Slot where
  | un | sh (d : D) | ow (s : Shape) (d : D)
abbrev Env := List Slot
/-- to be read: shared, or one's own with shared parts -/
def RdD (G : GC) (F H : Hp) (v : V) (d : D) : Prop := Rep G F v d ∨ ∃ A, Own G F H .flat v d A
def getS (i : Nat) (r : Env) : Res D := match r[i]? with
  | some (.sh d) => .ok d
  | _ => .bad
def getR (i : Nat) (r : Env) : Res D := match r[i]? with
  | some (.sh d) => .ok d
  | some (.ow .flat d) => .ok d
  | _ => .bad
def freeze (i : Nat) (r : Env) : Env := match r[i]? with
  | some (.ow _ d) => r.set i (.sh d)
  | _ => r
/-- what is wished of an exception; what stays true of the names' values -/
structure Wi where
  w : WX
  J : L2.St → Prop
/-- the state of a def: slots, heap; fp i: the addresses that the i-th name owns -/
structure MS (G : GC) (J : L2.St → Prop) (H0 F0 : Hp) (fp : Nat → List Addr) (F : Hp) (σ : L2.St) (H : Hp) (r : Env) : Prop where
  jo : J σ
  s0 : Stays F0 H0 F H
  f0 : Same F0 F
  sub : Same F H
  new : ∀ a o, F a = some o → F0 a = some o ∨ H0 a = none
  len : r.length = σ.length
  sh : ∀ (i : Nat) (d : D), r[i]? = some (.sh d) → ∃ v, σ[i]? = some (some v) ∧ Rep G F v d
  ow : ∀ (i : Nat) (s : Shape) (d : D), r[i]? = some (.ow s d) → (∃ v, σ[i]? = some (some v) ∧ Own G F H s v d (fp i)) ∧ ∀ a ∈ fp i, H0 a = none
  ap : ∀ (i j : Nat) (s t : Shape) (d e : D), i ≠ j → r[i]? = some (.ow s d) → r[j]? = some (.ow t e) → ∀ a ∈ fp i, a ∉ fp j
  t0 : Tt F0 H0
section
variable {G : GC} {J : L2.St → Prop} {H0 F0 F H F' H' : Hp} {fp : Nat → List Addr} {σ : L2.St} {r : Env}
theorem MS.grow (m : MS G J H0 F0 fp F σ H r) (g : Grow F H F' H') : MS G J H0 F0 fp F' σ H' r where
  jo := m.jo
  s0 := m.s0.trans g.h
  f0 := m.f0.trans g.f
  sub := g.sub
  new := fun a o e => (g.new a o e).elim (m.new a o) fun q => .inr (m.s0.free q)
  len := m.len
  sh := fun i d e => let ⟨v, h1, h2⟩ := m.sh i d e; ⟨v, h1, h2.mono g.f⟩
  ow := fun i s d e => let ⟨⟨v, h1, h2⟩, h3⟩ := m.ow i s d e; ⟨⟨v, h1, h2.grow g⟩, h3⟩
  ap := m.ap
  t0 := m.t0
theorem MS.tt (m : MS G J H0 F0 fp F σ H r) : Tt F H := m.s0.tt m.t0
theorem MS.getS (m : MS G J H0 F0 fp F σ H r) {i : Nat} {d : D} (h : getS i r = .ok d) : ∃ v, σ[i]? = some (some v) ∧ Rep G F v d := by
  unfold Mir.getS at h
  split at h
  · rename_i e; cases h; exact m.sh i _ e
  · cases h
theorem getS_not_er {i : Nat} {e : D} {r : Env} (h : Mir.getS i r = .er e) : False := by
  unfold Mir.getS at h
  split at h <;> cases h
theorem getR_not_er {i : Nat} {e : D} {r : Env} (h : Mir.getR i r = .er e) : False := by
  unfold Mir.getR at h
  split at h <;> cases h
theorem MS.getR (m : MS G J H0 F0 fp F σ H r) {i : Nat} {d : D} (h : getR i r = .ok d) : ∃ v, σ[i]? = some (some v) ∧ RdD G F H v d := by
  unfold Mir.getR at h
  split at h
  · rename_i e
    cases h
    obtain ⟨v, h1, h2⟩ := m.sh i _ e
    exact ⟨v, h1, .inl h2⟩
  · rename_i _ e
    cases h
    obtain ⟨⟨v, h1, h2⟩, _⟩ := m.ow i _ _ e
    exact ⟨v, h1, .inr ⟨_, h2⟩⟩
  · cases h
theorem get_set_slot {r : Env} {i j : Nat} {x y : Slot} (h : (r.set i x)[j]? = some y) : (i = j ∧ x = y ∧ i < r.length) ∨ (i ≠ j ∧ r[j]? = some y) := by
  by_cases e : i = j
  · subst e
    by_cases hl : i < r.length
    · rw [List.getElem?_set_self hl] at h
      exact .inl ⟨rfl, Option.some.inj h, hl⟩
    · rw [List.getElem?_eq_none (by simpa using hl)] at h
      cases h
  · rw [List.getElem?_set_ne e] at h
    exact .inr ⟨e, h⟩
/-- a shared value is put into the i-th name -/
theorem MS.setS (m : MS G J H0 F0 fp F σ H r) {v : V} {d : D} (i : Nat) (q : Rep G F v d) (hJ : ∀ σ v, J σ → J (σ.set i v)) : MS G J H0 F0 fp F (σ.set i (some v)) H (r.set i (.sh d)) where
  jo := hJ _ _ m.jo
  s0 := m.s0
  f0 := m.f0
  sub := m.sub
  new := m.new
  len := by simpa using m.len
  sh := fun j e h => by
    rcases get_set_slot h with ⟨rfl, x, hl⟩ | ⟨ne, h⟩
    · cases x
      exact ⟨v, List.getElem?_set_self (by rw [← m.len]; exact hl), q⟩
    · rw [List.getElem?_set_ne ne]
      exact m.sh j e h
  ow := fun j s e h => by
    rcases get_set_slot h with ⟨_, x, _⟩ | ⟨ne, h⟩
    · cases x
    · rw [List.getElem?_set_ne ne]
      exact m.ow j s e h
  ap := fun j k s t d e n h1 h2 => by
    rcases get_set_slot h1 with ⟨_, x, _⟩ | ⟨_, h1⟩
    · cases x
    · rcases get_set_slot h2 with ⟨_, x, _⟩ | ⟨_, h2⟩
      · cases x
      · exact m.ap j k s t d e n h1 h2
  t0 := m.t0
/-- an owned value is put into the i-th name -/
theorem MS.setO (m : MS G J H0 F0 fp F σ H r) {v : V} {d : D} {s : Shape} {A : List Addr} (i : Nat) (q : Own G F H s v d A) (hn : ∀ a ∈ A, H0 a = none) (hd : ∀ (j : Nat) (t : Shape) (e : D), j ≠ i → r[j]? = some (.ow t e) → ∀ a ∈ A, a ∉ fp j) (hJ : ∀ σ v, J σ → J (σ.set i v)) :
    MS G J H0 F0 (fun j => if j = i then A else fp j) F (σ.set i (some v)) H (r.set i (.ow s d)) where
  jo := hJ _ _ m.jo
  s0 := m.s0
  f0 := m.f0
  sub := m.sub
  new := m.new
  len := by simpa using m.len
  sh := fun j e h => by
    rcases get_set_slot h with ⟨_, x, _⟩ | ⟨ne, h⟩
    · cases x
    · rw [List.getElem?_set_ne ne]
      exact m.sh j e h
  ow := fun j s e h => by
    rcases get_set_slot h with ⟨rfl, x, hl⟩ | ⟨ne, h⟩
    · cases x
      rw [if_pos rfl]
      exact ⟨⟨v, List.getElem?_set_self (by rw [← m.len]; exact hl), q⟩, hn⟩
    · rw [List.getElem?_set_ne ne, if_neg (Ne.symm ne)]
      exact m.ow j s e h
  ap := fun j k s t d e n h1 h2 a => by
    rcases get_set_slot h1 with ⟨rfl, x, _⟩ | ⟨n1, h1⟩
    · rcases get_set_slot h2 with ⟨z, _, _⟩ | ⟨n2, h2⟩
      · exact absurd z n
      · cases x
        rw [if_pos rfl, if_neg (Ne.symm n2)]
        exact hd k t e (Ne.symm n2) h2 a
    · rcases get_set_slot h2 with ⟨rfl, x, _⟩ | ⟨n2, h2⟩
      · cases x
        rw [if_pos rfl, if_neg (Ne.symm n1)]
        exact fun ha hb => hd j s d (Ne.symm n1) h1 a hb ha
      · rw [if_neg (Ne.symm n1), if_neg (Ne.symm n2)]
        exact m.ap j k s t d e n h1 h2 a
  t0 := m.t0
/-- the i-th name's own parts become shared -/
theorem MS.freeze (m : MS G J H0 F0 fp F σ H r) (i : Nat) : ∃ F', Same F F' ∧ MS G J H0 F0 fp F' σ H (Mir.freeze i r) := by
  unfold Mir.freeze
  split
  · rename_i s d e
    obtain ⟨⟨v, h1, h2⟩, h3⟩ := m.ow i s d e
    refine ⟨share F H (fp i), share_same m.sub _, ?_⟩
    have hi : i < r.length := (List.getElem?_eq_some_iff.mp e).1
    refine ⟨m.jo, m.s0.share m.sub h2.nt, m.f0.trans (share_same m.sub _), share_sub m.sub _, fun a o q => ?_, by simpa using m.len, fun j e' h => ?_, fun j t e' h => ?_, fun j k t u d' e' n q1 q2 => ?_, m.t0⟩
    · by_cases ha : a ∈ fp i
      · exact .inr (h3 a ha)
      · rw [share_ne ha] at q
        exact m.new a o q
    · rcases get_set_slot h with ⟨rfl, x, hl⟩ | ⟨ne, h⟩
      · cases x
        exact ⟨v, h1, h2.rep m.sub _ fun _ z => z⟩
      · obtain ⟨w, q1, q2⟩ := m.sh j e' h
        exact ⟨w, q1, q2.mono (share_same m.sub _)⟩
    · rcases get_set_slot h with ⟨_, x, _⟩ | ⟨ne, h⟩
      · cases x
      · obtain ⟨⟨w, q1, q2⟩, q3⟩ := m.ow j t e' h
        refine ⟨⟨w, q1, q2.keep ⟨fun _ _ _ z => z, share_same m.sub _, fun a ha z => ?_⟩⟩, q3⟩
        rw [share_ne (m.ap j i t s e' d (Ne.symm ne) h e a ha)]
        exact z
    · rcases get_set_slot q1 with ⟨_, x, _⟩ | ⟨_, q1⟩
      · cases x
      · rcases get_set_slot q2 with ⟨_, x, _⟩ | ⟨_, q2⟩
        · cases x
        · exact m.ap j k t u d' e' n q1 q2
  · exact ⟨F, Same.refl _, m⟩
end
inductive Kd where
  | S | R
  | O (s : Shape)
/-- what may be read -/
def Kd.rd : Kd → Bool
  | .O (.parts _) => false
  | .O (.opts _) => false
  | _ => true
/-- v bears d: shared; to be read; one's own and new since H -/
def Kd.Rep (G : GC) (H F' H' : Hp) (v : V) (d : D) : Kd → Prop
  | .S => Mir.Rep G F' v d
  | .R => RdD G F' H' v d
  | .O s => ∃ A, Own G F' H' s v d A ∧ ∀ a ∈ A, H a = none
/-- an exception in the air is the datum e -/
def ExcIs (G : GC) (F : Hp) (cls : Value) (dd : Option Addr) (e : D) : Prop :=
  ∃ (c : Nat) (ws : List V) (vs : List D), e = .exc c vs ∧ cls = .ref (G.ca c) ∧ RepAll G F ws vs ∧
    ((dd = none ∧ cflds c = [] ∧ ws = []) ∨ ∃ dx, dd = some dx ∧ F dx = some (.xd ((cflds c).zip ws)) ∧ ws.length = (cflds c).length)
/-- what is due of an answer: behind it P; of an exception: the wish -/
def Out (G : GC) (W : Wi) (σ : L2.St) {α : Type} (F H : Hp) (P : Hp → Hp → α → Prop) : Res α → Prop
  | .ok a => ∀ F' H', Grow F H F' H' → P F' H' a
  | .er e => ∀ cls dd F' H', Grow F H F' H' → ExcIs G F' cls dd e → W.w cls dd σ H'
  | .bad => False
/-- the reading of an expression of worth f -/
def tE (G : GC) (W : Wi) (k : Kd) (f : Env → Res D) : TE := fun σ H Q => ∃ H0 F0 fp F r, MS G W.J H0 F0 fp F σ H r ∧ Out G W σ F H (fun F' H' d => ∀ v, k.Rep G H F' H' v d → Q v H') (f r)
def tT (G : GC) (W : Wi) (f : Env → Res Bool) : TT := fun σ H Q => ∃ H0 F0 fp F r, MS G W.J H0 F0 fp F σ H r ∧ Out G W σ F H (fun F' H' b => Q b H') (f r)
def tA (G : GC) (W : Wi) (f : Env → Res (List D)) : TA := fun σ H Q => ∃ H0 F0 fp F r, MS G W.J H0 F0 fp F σ H r ∧ Out G W σ F H (fun F' H' ds => ∀ vs, RepAll G F' vs ds → Q vs H') (f r)
abbrev RE (X : Cx) (W : Wi) (k : Kd) (e : Expr) (f : Env → Res D) : Prop := PE X e (tE (gOf X) W k f)
abbrev RT (X : Cx) (W : Wi) (e : Expr) (f : Env → Res Bool) : Prop := PT X e (tT (gOf X) W f)
abbrev RA (X : Cx) (W : Wi) (es : List Expr) (f : Env → Res (List D)) : Prop := PA X es (tA (gOf X) W f)
theorem _root_.L2.PE.imp {X : Cx} {e : Expr} {t t' : TE} (h : PE X e t) (i : ∀ σ H Q, t' σ H Q → t σ H Q) : PE X e t' := ⟨fun pins s σ H Q I hw => h.run pins s σ H Q I (i σ H Q hw)⟩
theorem _root_.L2.PT.imp {X : Cx} {e : Expr} {t t' : TT} (h : PT X e t) (i : ∀ σ H Q, t' σ H Q → t σ H Q) : PT X e t' := ⟨fun pins s σ H Q I hw => h.run pins s σ H Q I (i σ H Q hw)⟩
theorem _root_.L2.PW.imp {X : Cx} {e : Expr} {t t' : TT} (h : PW X e t) (i : ∀ σ H Q, t' σ H Q → t σ H Q) : PW X e t' := ⟨fun wh pins s σ H Q I hw => h.run wh pins s σ H Q I (i σ H Q hw)⟩
theorem _root_.L2.PA.imp {X : Cx} {e : List Expr} {t t' : TA} (h : PA X e t) (i : ∀ σ H Q, t' σ H Q → t σ H Q) : PA X e t' := ⟨fun pos pins s σ H Q I hw => h.run pos pins s σ H Q I (i σ H Q hw)⟩
theorem _root_.L2.PS.imp {X : Cx} {e : Stmt} {t t' : TS} (h : PS X e t) (i : ∀ D σ H, t' D σ H → t D σ H) : PS X e t' := ⟨fun pins s σ H D I hw => h.run pins s σ H D I (i D σ H hw)⟩
theorem _root_.L2.PSs.imp {X : Cx} {e : List Stmt} {t t' : TS} (h : PSs X e t) (i : ∀ D σ H, t' D σ H → t D σ H) : PSs X e t' := ⟨fun pins s σ H D I hw => h.run pins s σ H D I (i D σ H hw)⟩
section
variable {G : GC} {J : L2.St → Prop} {W : Wi} {k : Kd} {σ : L2.St} {H F H1 F1 : Hp} {H0 F0 : Hp} {fp : Nat → List Addr} {r : Env} {α β : Type}
theorem Kd.R_of {k : Kd} {H F' H' : Hp} {v : V} {d : D} (hk : k.rd = true) (h : k.Rep G H F' H' v d) : Kd.R.Rep G H F' H' v d := by
  cases k with
  | S => exact Or.inl h
  | R => exact h
  | O s =>
    obtain ⟨A, ow, _⟩ := h
    cases s with
    | sh =>
      cases ow with
      | sh r => exact Or.inl r
      | lst h => cases h
      | tup h => cases h
      | dic h => cases h
      | obj h => cases h
    | flat => exact Or.inr ⟨A, ow⟩
    | parts l => cases hk
    | opts l => cases hk
theorem Kd.Rep.later (s : Fre H H1) : ∀ {k : Kd} {F' H' : Hp} {v : V} {d : D}, k.Rep G H1 F' H' v d → k.Rep G H F' H' v d
  | .S, _, _, _, _, h => h
  | .R, _, _, _, _, h => h
  | .O _, _, _, _, _, ⟨A, h, n⟩ => ⟨A, h, fun a ha => s a (n a ha)⟩
/-- it stays while the heap grows -/
theorem Kd.Rep.grow {H F1 H1 F2 H2 : Hp} (g : Grow F1 H1 F2 H2) : ∀ {k : Kd} {v : V} {d : D}, k.Rep G H F1 H1 v d → k.Rep G H F2 H2 v d
  | .S, _, _, h => Mir.Rep.mono g.f h
  | .R, _, _, .inl h => .inl (Mir.Rep.mono g.f h)
  | .R, _, _, .inr ⟨A, h⟩ => .inr ⟨A, h.grow g⟩
  | .O _, _, _, ⟨A, h, n⟩ => ⟨A, h.grow g, n⟩
theorem Out.grow {P : Hp → Hp → α → Prop} {x : Res α} (h : Out G W σ F H P x) (g : Grow F H F1 H1) : Out G W σ F1 H1 P x := by
  cases x with
  | ok a => exact fun F' H' q => h F' H' (g.trans q)
  | er e => exact fun cls dd F' H' q => h cls dd F' H' (g.trans q)
  | bad => exact h
theorem Out.imp {P P' : Hp → Hp → α → Prop} {x : Res α} (h : Out G W σ F H P x) (i : ∀ F' H' a, Grow F H F' H' → P F' H' a → P' F' H' a) : Out G W σ F H P' x := by
  cases x with
  | ok a => exact fun F' H' q => i F' H' a q (h F' H' q)
  | er e => exact h
  | bad => exact h
/-- behind the first of two -/
theorem Out.bind {P : Hp → Hp → β → Prop} {P1 : Hp → Hp → α → Prop} {x : Res α} {g : α → Res β} (h : Out G W σ F H P (x >>= g)) (i : ∀ F' H' a, Grow F H F' H' → Out G W σ F' H' P (g a) → P1 F' H' a) : Out G W σ F H P1 x := by
  cases x with
  | ok a => exact fun F' H' q => i F' H' a q (Out.grow h q)
  | er e => exact h
  | bad => exact h
theorem Out.val {P : Hp → Hp → α → Prop} {x : Res α} {a : α} (h : Out G W σ F H P x) (e : x = .ok a) (s : Same F H) : P F H a := by
  subst e
  exact h F H (Grow.refl s)
end
section
variable {X : Cx} {W : Wi}
theorem re_var (i : Nat) {x : Str} {pos : Pos} (hN : X.N[i]? = some x := by rfl) (hv : Vis X.env.scope x := by first | exact Or.inl rfl | exact Or.inr (Or.inl rfl) | exact Or.inr (Or.inr rfl)) (hd : (x == ("__debug__" : Str)) = false := by decide)
    (hcd : (x == ("__classdict__" : Str)) = false := by decide) : RE X W .S (.Name x pos) (getS i) := by
  refine (pe_var hN hv hd hcd).imp fun σ H Q ⟨H0, F0, fp, F, r, m, o⟩ => ?_
  cases e : getS i r with
  | ok d =>
    obtain ⟨v, h1, h2⟩ := m.getS e
    exact ⟨v, h1, o.val e m.sub v h2⟩
  | er x => exact (getS_not_er e).elim
  | bad => rw [e] at o; exact o.elim
theorem re_varR (i : Nat) {x : Str} {pos : Pos} (hN : X.N[i]? = some x := by rfl) (hv : Vis X.env.scope x := by first | exact Or.inl rfl | exact Or.inr (Or.inl rfl) | exact Or.inr (Or.inr rfl)) (hd : (x == ("__debug__" : Str)) = false := by decide)
    (hcd : (x == ("__classdict__" : Str)) = false := by decide) : RE X W .R (.Name x pos) (getR i) := by
  refine (pe_var hN hv hd hcd).imp fun σ H Q ⟨H0, F0, fp, F, r, m, o⟩ => ?_
  cases e : getR i r with
  | ok d =>
    obtain ⟨v, h1, h2⟩ := m.getR e
    exact ⟨v, h1, o.val e m.sub v h2⟩
  | er x => exact (getR_not_er e).elim
  | bad => rw [e] at o; exact o.elim
theorem re_cst {e : Expr} {v : V} {d : D} (h : PE X e (tC v)) (r : ∀ F, Rep (gOf X) F v d) : RE X W .S e (fun _ => .ok d) :=
  h.imp fun σ H Q ⟨H0, F0, fp, F, _, m, o⟩ => o F H (Grow.refl m.sub) v (r F)
theorem re_int {i j pos} : RE X W .S (.Constant (.int i) j pos) (fun _ => .ok (.int i)) := re_cst pe_int fun _ => .int i
theorem re_bl {b j pos} : RE X W .S (.Constant (.bool b) j pos) (fun _ => .ok (.bl b)) := re_cst pe_bl fun _ => .bl b
theorem re_non {j pos} : RE X W .S (.Constant .none j pos) (fun _ => .ok .non) := re_cst pe_non fun _ => .non
theorem re_str {x j pos} : RE X W .S (.Constant (.str x) j pos) (fun _ => .ok (.str x)) := re_cst pe_str fun _ => .str x
/-- a shared value, one's own: to be read -/
theorem re_rd {k : Kd} {e : Expr} {f : Env → Res D} (h : RE X W k e f) (hk : k.rd = true := by rfl) : RE X W .R e f :=
  h.imp fun σ H Q ⟨H0, F0, fp, F, r, m, o⟩ => ⟨H0, F0, fp, F, r, m, o.imp fun F' H' d _ p v kr => p v (Kd.R_of hk kr)⟩
/-- one's own is shared -/
theorem re_share {s : Shape} {e : Expr} {f : Env → Res D} (h : RE X W (.O s) e f) : RE X W .S e f :=
  h.imp fun σ H Q ⟨H0, F0, fp, F, r, m, o⟩ => ⟨H0, F0, fp, F, r, m, by
    cases e : f r with
    | ok d =>
      rw [e] at o
      intro F' H' g v ⟨A, ow, n⟩
      refine o (share F' H' A) H' ⟨g.h.share g.sub ow.nt, g.f.trans (share_same g.sub A), share_sub g.sub A, fun a u q => ?_⟩ v (ow.rep g.sub A fun _ z => z)
      by_cases ha : a ∈ A
      · exact .inr (n a ha)
      · rw [share_ne ha] at q
        exact g.new a u q
    | er x => rw [e] at o; exact o
    | bad => rw [e] at o; exact o⟩
theorem ra_nil : RA X W [] (fun _ => .ok []) := pa_nil.imp fun σ H Q ⟨H0, F0, fp, F, r, m, o⟩ => o F H (Grow.refl m.sub) [] .nil
theorem ra_cons {e : Expr} {es : List Expr} {f : Env → Res D} {g : Env → Res (List D)} (he : RE X W .S e f) (hr : RA X W es g) (hs : starEach (e :: es) X.env = (false, eval e X.env) :: starEach es X.env := by rfl) :
    RA X W (e :: es) (fun r => f r >>= fun d => g r >>= fun ds => .ok (d :: ds)) :=
  (pa_cons he hr hs).imp fun σ H Q ⟨H0, F0, fp, F, r, m, o⟩ => ⟨H0, F0, fp, F, r, m, o.bind fun F1 H1 d g1 o1 v kv =>
    ⟨H0, F0, fp, F1, r, m.grow g1, o1.bind fun F2 H2 ds g2 o2 vs rv => o2 F2 H2 (Grow.refl g2.sub) (v :: vs) (.cons (Mir.Rep.mono g2.f kv) rv)⟩⟩
end
/-- what an operation by values is worth -/
def OpD (G : GC) (rr : R2) (k1 k2 k : Kd) (op : D → D → Res D) : Prop := ∀ (F H : Hp) (x y : V) (a b d : D) (Q : VK) (Ha Hb : Hp), Same F H → k1.Rep G Ha F H x a → k2.Rep G Hb F H y b → op a b = .ok d → (∀ v F' H', Grow F H F' H' → k.Rep G H F' H' v d → Q v H') → rr x y H Q
def NoEr2 (op : D → D → Res D) : Prop := ∀ a b e, op a b ≠ .er e
section
variable {X : Cx} {W : Wi} {k1 k2 k : Kd} {a b : Expr} {fa fb : Env → Res D} {pos : Pos} {op : D → D → Res D}
theorem t_op {rr : R2} (h : OpD (gOf X) rr k1 k2 k op) (ne : NoEr2 op) (σ : L2.St) (H : Hp) (Q : VK)
    (t : tE (gOf X) W k (fun r => fa r >>= fun x => fb r >>= fun y => op x y) σ H Q) : tOp rr (tE (gOf X) W k1 fa) (tE (gOf X) W k2 fb) σ H Q := by
  obtain ⟨H0, F0, fp, F, r, m, o⟩ := t
  refine ⟨H0, F0, fp, F, r, m, o.bind fun F1 H1 d g1 o1 v kv => ⟨H0, F0, fp, F1, r, m.grow g1, o1.bind fun F2 H2 e g2 o2 u ku => ?_⟩⟩
  cases z : op d e with
  | ok w =>
    rw [z] at o2
    exact h F2 H2 v u d e w Q _ _ g2.sub (kv.grow g2) ku z fun v' F' H' g kr => o2 F' H' g v' (kr.later (g1.h.trans g2.h).fre)
  | er x => exact (ne _ _ _ z).elim
  | bad => rw [z] at o2; exact o2.elim
theorem re_op {o : Operator} {rr : R2} (ho : OpR X (binaryOp o) rr) (h : OpD (gOf X) rr k1 k2 k op) (ne : NoEr2 op) (ha : RE X W k1 a fa) (hb : RE X W k2 b fb) :
    RE X W k (.BinOp a o b pos) (fun r => fa r >>= fun x => fb r >>= fun y => op x y) := (pe_op ho ha hb).imp (t_op h ne)
theorem re_cmp {o : CmpOp} {rr : R2} (ho : OpR X (compareOp o) rr) (h : OpD (gOf X) rr k1 k2 k op) (ne : NoEr2 op) (ha : RE X W k1 a fa) (hb : RE X W k2 b fb) (hm : behindInMarks o b = false) :
    RE X W k (.Compare a [o] [b] pos) (fun r => fa r >>= fun x => fb r >>= fun y => op x y) := (pe_cmpR ho ha hb hm).imp (t_op h ne)
end
end Mir
namespace Mir
open PySem PySem.Spec PyProof.Rows L2
variable [Tn]
/-- how a block ends -/
inductive Oc where
  | nx (r : Env) | rt (d : D) | bk (r : Env) | ct (r : Env) | er (e : D) (r : Env) | bad
def Oc.seq (o : Oc) (g : Env → Oc) : Oc := match o with
  | .nx r => g r
  | o => o
@[simp] theorem nx_seq (r : Env) (g : Env → Oc) : (Oc.nx r).seq g = g r := rfl
@[simp] theorem rt_seq (d : D) (g : Env → Oc) : (Oc.rt d).seq g = .rt d := rfl
@[simp] theorem bk_seq (r : Env) (g : Env → Oc) : (Oc.bk r).seq g = .bk r := rfl
@[simp] theorem ct_seq (r : Env) (g : Env → Oc) : (Oc.ct r).seq g = .ct r := rfl
@[simp] theorem er_seq (e : D) (r : Env) (g : Env → Oc) : (Oc.er e r).seq g = .er e r := rfl
@[simp] theorem bad_seq (g : Env → Oc) : Oc.bad.seq g = .bad := rfl
/-- an expression ahead of the rest -/
def lift {α : Type} (x : Res α) (r : Env) (g : α → Oc) : Oc := match x with
  | .ok a => g a
  | .er e => .er e r
  | .bad => .bad
@[simp] theorem lift_ok {α : Type} (a : α) (r : Env) (g : α → Oc) : lift (.ok a) r g = g a := rfl
@[simp] theorem lift_er {α : Type} (e : D) (r : Env) (g : α → Oc) : lift (.er e : Res α) r g = .er e r := rfl
@[simp] theorem lift_bad {α : Type} (r : Env) (g : α → Oc) : lift (.bad : Res α) r g = .bad := rfl
/-- the names behind a target -/
def into (x : Res Env) : Oc := match x with
  | .ok r => .nx r
  | _ => .bad
@[simp] theorem into_ok (r : Env) : into (.ok r) = .nx r := rfl
/-- what is due behind a statement -/
def OutS (G : GC) (W : Wi) (k : Kd) (H0 F0 F : Hp) (D : Ends) : Oc → Prop
  | .nx r => ∀ fp F' σ' H', Same F F' → MS G W.J H0 F0 fp F' σ' H' r → D.nx σ' H'
  | .rt d => ∀ F' H' v, Same F F' → Grow F0 H0 F' H' → k.Rep G H0 F' H' v d → D.rt v H'
  | .bk r => ∀ fp F' σ' H', Same F F' → MS G W.J H0 F0 fp F' σ' H' r → D.bk σ' H'
  | .ct r => ∀ fp F' σ' H', Same F F' → MS G W.J H0 F0 fp F' σ' H' r → D.ct σ' H'
  | .er e r => ∀ fp F' σ' H' cls dd, Same F F' → MS G W.J H0 F0 fp F' σ' H' r → ExcIs G F' cls dd e → W.w cls dd σ' H'
  | .bad => False
def tS (G : GC) (W : Wi) (k : Kd) (g : Env → Oc) : TS := fun D σ H => ∃ H0 F0 fp F r, MS G W.J H0 F0 fp F σ H r ∧ OutS G W k H0 F0 F D (g r)
abbrev RS (X : Cx) (W : Wi) (k : Kd) (s : Stmt) (g : Env → Oc) : Prop := PS X s (tS (gOf X) W k g)
abbrev RSs (X : Cx) (W : Wi) (k : Kd) (s : List Stmt) (g : Env → Oc) : Prop := PSs X s (tS (gOf X) W k g)
section
variable {G : GC} {W : Wi} {k : Kd} {σ : L2.St} {H F F1 : Hp} {H0 F0 : Hp} {fp : Nat → List Addr} {r : Env} {D : Ends}
theorem MS.g0 {J : L2.St → Prop} (m : MS G J H0 F0 fp F σ H r) : Grow F0 H0 F H := ⟨m.s0, m.f0, m.sub, m.new⟩
theorem OutS.same {o : Oc} (h : OutS G W k H0 F0 F D o) (s : Same F F1) : OutS G W k H0 F0 F1 D o := by
  cases o with
  | nx r => exact fun fp F' σ' H' q m => h fp F' σ' H' (s.trans q) m
  | rt d => exact fun F' H' v q g kr => h F' H' v (s.trans q) g kr
  | bk r => exact fun fp F' σ' H' q m => h fp F' σ' H' (s.trans q) m
  | ct r => exact fun fp F' σ' H' q m => h fp F' σ' H' (s.trans q) m
  | er e r => exact fun fp F' σ' H' cls dd q m x => h fp F' σ' H' cls dd (s.trans q) m x
  | bad => exact h
/-- the first of two -/
theorem OutS.seq {o : Oc} {g : Env → Oc} (h : OutS G W k H0 F0 F D (o.seq g)) : OutS G W k H0 F0 F { D with nx := tS G W k g D } o := by
  cases o with
  | nx r => exact fun fp F' σ' H' q m => ⟨H0, F0, fp, F', r, m, h.same q⟩
  | rt d => exact h
  | bk r => exact h
  | ct r => exact h
  | er e r => exact h
  | bad => exact h
/-- an expression ahead -/
theorem OutS.lift {α : Type} {x : Res α} {g : α → Oc} {P : Hp → Hp → α → Prop} (m : MS G W.J H0 F0 fp F σ H r) (h : OutS G W k H0 F0 F D (lift x r g)) (i : ∀ F' H' a, Grow F H F' H' → OutS G W k H0 F0 F' D (g a) → P F' H' a) : Out G W σ F H P x := by
  cases x with
  | ok a => exact fun F' H' gr => i F' H' a gr (OutS.same h gr.f)
  | er e => exact fun cls dd F' H' gr x => h fp F' σ H' cls dd gr.f (m.grow gr) x
  | bad => exact h
end
section
variable {X : Cx} {W : Wi} {k : Kd}
theorem rss_nil : RSs X W k [] (fun r => .nx r) := pss_nil.imp fun D σ H ⟨H0, F0, fp, F, r, m, o⟩ => o fp F σ H (Same.refl _) m
theorem rss_cons {s : Stmt} {ss : List Stmt} {g1 g2 : Env → Oc} (h1 : RS X W k s g1) (h2 : RSs X W k ss g2) : RSs X W k (s :: ss) (fun r => (g1 r).seq g2) :=
  (pss_cons h1 h2).imp fun D σ H ⟨H0, F0, fp, F, r, m, o⟩ => ⟨H0, F0, fp, F, r, m, o.seq⟩
theorem rss_one {s : Stmt} {g : Env → Oc} (h1 : RS X W k s g) : RSs X W k [s] g := pss_one h1
/-- names that one owns are shared ahead of a statement -/
theorem rs_freeze (i : Nat) {s : Stmt} {g : Env → Oc} (h : RS X W k s g) : RS X W k s (fun r => g (freeze i r)) :=
  h.imp fun D σ H ⟨H0, F0, fp, F, r, m, o⟩ => let ⟨F', s, m'⟩ := m.freeze i; ⟨H0, F0, fp, F', _, m', o.same s⟩
theorem rs_if {c : Expr} {a b : List Stmt} {pos : Pos} {f : Env → Res Bool} {ga gb : Env → Oc} (hc : RT X W c f) (ha : RSs X W k a ga) (hb : RSs X W k b gb) :
    RS X W k (.If c a b pos) (fun r => lift (f r) r fun t => if t = true then ga r else gb r) :=
  (ps_if hc ha hb).imp fun D σ H ⟨H0, F0, fp, F, r, m, o⟩ => ⟨H0, F0, fp, F, r, m, o.lift m fun F' H' t g o' => by
    cases t with
    | true => exact ⟨H0, F0, fp, F', r, m.grow g, o'⟩
    | false => exact ⟨H0, F0, fp, F', r, m.grow g, o'⟩⟩
theorem rs_ret {e : Expr} {pos : Pos} {f : Env → Res D} (he : RE X W k e f) : RS X W k (.Return (some e) pos) (fun r => lift (f r) r fun d => .rt d) :=
  (ps_ret he).imp fun D σ H ⟨H0, F0, fp, F, r, m, o⟩ => ⟨H0, F0, fp, F, r, m, o.lift m fun F' H' d g o' v kv => o' F' H' v (Same.refl _) (m.grow g).g0 (kv.later m.s0.fre)⟩
theorem rs_expr {k' : Kd} {e : Expr} {pos : Pos} {f : Env → Res D} (he : RE X W k' e f) (hs : swapsWith e none pos.line X.env = pure false := by rfl) : RS X W k (.Expr e pos) (fun r => lift (f r) r fun _ => .nx r) :=
  (ps_expr he hs).imp fun D σ H ⟨H0, F0, fp, F, r, m, o⟩ => ⟨H0, F0, fp, F, r, m, o.lift m fun F' H' d g o' v kv => o' fp F' σ H' (Same.refl _) (m.grow g)⟩
theorem jset {i j : Nat} {v0 : Option (Option V)} (h : i ≠ j) : ∀ (σ : L2.St) (v : Option V), σ[j]? = v0 → (σ.set i v)[j]? = v0 := fun σ v e => (List.getElem?_set_ne h).trans e
/-- the names of a def that got a lambda: the third holds it, from the sixth on stands what it captured -/
def PinsF (gs : List Nat) (f : Addr) (ws : List V) (τ : L2.St) : Prop := τ[2]? = some (some (.ref f)) ∧ gs.map (fun j => τ[j]?) = ws.map (fun v => some (some v)) ∧ ∀ j ∈ gs, 6 ≤ j
theorem jfn {i : Nat} {gs : List Nat} {f : Addr} {ws : List V} (h : i ≠ 2 ∧ i < 6) : ∀ (σ : L2.St) (v : Option V), PinsF gs f ws σ → PinsF gs f ws (σ.set i v) := fun σ v ⟨a, b, c⟩ => by
  refine ⟨(List.getElem?_set_ne h.1).trans a, ?_, c⟩
  rw [← b]
  exact List.map_congr_left fun j hj => List.getElem?_set_ne (by have := c j hj; omega)
def tGd (G : GC) (J : L2.St → Prop) (g : D → Env → Res Env) : TG := fun v σ H Q => ∃ H0 F0 fp F r d, MS G J H0 F0 fp F σ H r ∧ Rep G F v d ∧ ∃ r', g d r = .ok r' ∧ ∀ fp' σ', MS G J H0 F0 fp' F σ' H r' → Q σ' H
def tGds (G : GC) (J : L2.St → Prop) (g : List D → Env → Res Env) : TGs := fun vs σ H Q => ∃ H0 F0 fp F r ds, MS G J H0 F0 fp F σ H r ∧ RepAll G F vs ds ∧ ∃ r', g ds r = .ok r' ∧ ∀ fp' σ', MS G J H0 F0 fp' F σ' H r' → Q σ' H
abbrev RG (X : Cx) (J : L2.St → Prop) (tg : Expr) (g : D → Env → Res Env) : Prop := PG X tg (tGd (gOf X) J g)
abbrev RGs (X : Cx) (J : L2.St → Prop) (tg : List Expr) (g : List D → Env → Res Env) : Prop := PGs X tg (tGds (gOf X) J g)
theorem PG.imp {e : Expr} {t t' : TG} (h : PG X e t) (i : ∀ v σ H Q, t' v σ H Q → t v σ H Q) : PG X e t' := ⟨fun pins s σ H v u Q I r hw => h.run pins s σ H v u Q I r (i v σ H Q hw)⟩
theorem PGs.imp {e : List Expr} {t t' : TGs} (h : PGs X e t) (i : ∀ v σ H Q, t' v σ H Q → t v σ H Q) : PGs X e t' := ⟨fun pins s σ H v u Q I r hw => h.run pins s σ H v u Q I r (i v σ H Q hw)⟩
theorem rg_name {J : L2.St → Prop} (i : Nat) {x : Str} {pos : Pos} (hN : X.N.Nodup) (hJ : ∀ σ v, J σ → J (σ.set i v) := by first | exact fun _ _ h => h | exact jset (by decide) | exact jfn (by decide)) (hi : X.N[i]? = some x := by rfl) (hx : Loc X.env.scope x := by first | exact Or.inl rfl | exact Or.inr rfl) (hf : X.fn x = true ∨ X.env.scope.names.lookup x = some .local := by first | exact .inl rfl | exact .inr rfl) :
    RG X J (.Name x pos) (fun d r => .ok (r.set i (.sh d))) :=
  PG.imp (pg_name hN hi hx hf) fun v σ H Q ⟨H0, F0, fp, F, r, d, m, rv, r', e, q⟩ => by
    cases e
    exact q fp _ (m.setS i rv hJ)
theorem rgs_nil {J : L2.St → Prop} : RGs X J [] (fun ds r => match ds with
    | [] => .ok r
    | _ => .bad) :=
  PGs.imp pgs_nil fun vs σ H Q ⟨H0, F0, fp, F, r, ds, m, rv, r', e, q⟩ => by
    cases rv with
    | nil => cases e; exact ⟨rfl, q fp σ m⟩
    | cons _ _ => cases e
theorem rgs_cons {J : L2.St → Prop} {e : Expr} {es : List Expr} {g : D → Env → Res Env} {gs : List D → Env → Res Env} (h1 : RG X J e g) (h2 : RGs X J es gs) (hs : (assignEach (e :: es) X.env).map (·.2) = assign e X.env :: (assignEach es X.env).map (·.2) := by rfl) :
    RGs X J (e :: es) (fun ds r => match ds with
    | d :: ds => g d r >>= fun r' => gs ds r'
    | [] => .bad) :=
  PGs.imp (pgs_cons h1 h2 hs) fun vs σ H Q ⟨H0, F0, fp, F, r, ds, m, rv, r', e, q⟩ => by
    cases rv with
    | nil => cases e
    | @cons v d vs ds rv rr =>
      have e' : (g d r >>= fun r' => gs ds r') = .ok r' := e
      cases e1 : g d r with
      | ok r1 =>
        rw [e1] at e'
        exact ⟨v, vs, rfl, H0, F0, fp, F, r, d, m, rv, r1, e1, fun fp1 σ1 m1 => ⟨H0, F0, fp1, F, r1, ds, m1, rr, r', e', q⟩⟩
      | er x => rw [e1] at e'; cases e'
      | bad => rw [e1] at e'; cases e'
theorem rg_tup {J : L2.St → Prop} {es : List Expr} {kk : Nat} {pos : Pos} {gs : List D → Env → Res Env} {n : Nat} (hc : X.calm = true) (h : RGs X J es gs) (hn : (assignEach es X.env).length = n := by rfl) (hst : (assignEach es X.env).findIdx? (·.1) = none := by rfl) :
    RG X J (.Tuple es kk pos) (fun d r => match d with
    | .tup ds => if ds.length = n then gs ds r else .bad
    | _ => .bad) :=
  PG.imp (pg_tup hc h hn hst) fun v σ H Q ⟨H0, F0, fp, F, r, d, m, rv, r', e, q⟩ => by
    cases rv with
    | @tup a vs ds sq ra =>
      have e' : (if ds.length = n then gs ds r else .bad) = .ok r' := e
      split at e'
      · rename_i hl
        exact ⟨a, vs, rfl, Same.sqT m.sub sq, by rw [ra.length]; exact hl, H0, F0, fp, F, r, ds, m, ra, r', e', q⟩
      · cases e'
    | _ => cases e
theorem t_asg {e : Expr} {te : TE} {f : Env → Res D} {g : D → Env → Res Env} {D : Ends} {σ : L2.St} {H : Hp}
    (t : tS (gOf X) W k (fun r => lift (f r) r fun d => into (g d r)) D σ H) : tAsg (tE (gOf X) W .S f) (tGd (gOf X) W.J g) D σ H := by
  obtain ⟨H0, F0, fp, F, r, m, o⟩ := t
  refine ⟨H0, F0, fp, F, r, m, o.lift m fun F' H' d gr o' v kv => ?_⟩
  cases e1 : g d r with
  | ok r1 =>
    rw [e1] at o'
    exact ⟨H0, F0, fp, F', r, d, m.grow gr, kv, r1, e1, fun fp' σ' m' => o' fp' F' σ' H' (Same.refl _) m'⟩
  | er x => rw [e1] at o'; exact o'.elim
  | bad => rw [e1] at o'; exact o'.elim
theorem rs_asg {tg e : Expr} {pos : Pos} {f : Env → Res D} {g : D → Env → Res Env} (he : RE X W .S e f) (hg : RG X W.J tg g) (hs : swapsWithSole [tg] e pos.line X.env = pure false := by rfl) (hw : swappedStores [tg] e X.env = pure none := by rfl)
    (h1 : (assignEach [tg] X.env).map (·.2) = [assign tg X.env] := by rfl) : RS X W k (.Assign [tg] e pos) (fun r => lift (f r) r fun d => into (g d r)) :=
  (ps_asg he hg hs hw h1).imp fun D σ H t => t_asg (e := e) (te := tE (gOf X) W .S f) t
theorem rs_set (i : Nat) {x : Str} {e : Expr} {pos pos' : Pos} {f : Env → Res D} (hN : X.N.Nodup) (he : RE X W .S e f) (hJ : ∀ σ v, W.J σ → W.J (σ.set i v) := by first | exact fun _ _ h => h | exact jset (by decide) | exact jfn (by decide)) (hi : X.N[i]? = some x := by rfl) (hx : Loc X.env.scope x := by first | exact Or.inl rfl | exact Or.inr rfl)
    (hs : swapsWith e (some (.Name x pos')) pos.line X.env = pure false := by rfl) (hf : X.fn x = true ∨ X.env.scope.names.lookup x = some .local := by first | exact .inl rfl | exact .inr rfl) :
    RS X W k (.Assign [.Name x pos'] e pos) (fun r => lift (f r) r fun d => .nx (r.set i (.sh d))) :=
  (ps_set hN hi hx he hs hf).imp fun D σ H ⟨H0, F0, fp, F, r, m, o⟩ => ⟨H0, F0, fp, F, r, m, o.lift m fun F' H' d gr o' v kv => o' fp F' _ H' (Same.refl _) ((m.grow gr).setS i kv hJ)⟩
theorem MS.setNew {G : GC} {J : L2.St → Prop} {H0 F0 F H F' H' : Hp} {fp : Nat → List Addr} {σ : L2.St} {r : Env} (m : MS G J H0 F0 fp F σ H r) (gr : Grow F H F' H') {v : V} {d : D} {s : Shape} (i : Nat) (kv : (Kd.O s).Rep G H F' H' v d) (hJ : ∀ σ v, J σ → J (σ.set i v)) :
    ∃ fp', MS G J H0 F0 fp' F' (σ.set i (some v)) H' (r.set i (.ow s d)) := by
  obtain ⟨A, ow, n⟩ := kv
  refine ⟨_, (m.grow gr).setO i ow (fun a ha => m.s0.free (n a ha)) (fun j t e ne h a ha hb => ?_) hJ⟩
  obtain ⟨⟨w, _, o2⟩, _⟩ := m.ow j t e h
  obtain ⟨_, u, z⟩ := o2.there a hb
  rw [n a ha] at z
  cases z
/-- name = a thing of one's own -/
theorem rs_setO (i : Nat) {s : Shape} {x : Str} {e : Expr} {pos pos' : Pos} {f : Env → Res D} (hN : X.N.Nodup) (he : RE X W (.O s) e f) (hJ : ∀ σ v, W.J σ → W.J (σ.set i v) := by first | exact fun _ _ h => h | exact jset (by decide) | exact jfn (by decide)) (hi : X.N[i]? = some x := by rfl) (hx : Loc X.env.scope x := by first | exact Or.inl rfl | exact Or.inr rfl)
    (hs : swapsWith e (some (.Name x pos')) pos.line X.env = pure false := by rfl) (hf : X.fn x = true ∨ X.env.scope.names.lookup x = some .local := by first | exact .inl rfl | exact .inr rfl) :
    RS X W k (.Assign [.Name x pos'] e pos) (fun r => lift (f r) r fun d => .nx (r.set i (.ow s d))) :=
  (ps_set hN hi hx he hs hf).imp fun D σ H ⟨H0, F0, fp, F, r, m, o⟩ => ⟨H0, F0, fp, F, r, m, o.lift m fun F' H' d gr o' v kv =>
    let ⟨fp', m'⟩ := m.setNew gr i kv hJ
    o' fp' F' _ H' (Same.refl _) m'⟩
end
/-- from the heap B on J walks the data ds, their parts in F -/
structure WalkD (G : GC) (F B : Hp) (J : It) (ds : List D) : Prop where
  goes : ∀ i H, i < ds.length → Same B H → J.go i H
  stops : ∀ H, Same B H → J.stop ds.length H
  yields : ∀ (i : Nat) F2 H2 x H3, i < ds.length → Same F F2 → Same F2 H2 → Same B H2 → J.yld i H2 x H3 → ∃ F3 d, Grow F2 H2 F3 H3 ∧ ds[i]? = some d ∧ Rep G F3 x d
def tI (G : GC) (W : Wi) (b : Bool) (f : Env → Res (List D)) : TI := fun σ H R => ∃ H0 F0 fp F r, MS G W.J H0 F0 fp F σ H r ∧ Out G W σ F H (fun F' H' ds => ∀ J, WalkD G F' (if b = true then F' else nT H') J ds → R J H') (f r)
/-- what a for walks: b: it stands in the shared part -/
abbrev RI (X : Cx) (W : Wi) (b : Bool) (tg iter : Expr) (f : Env → Res (List D)) : Prop := PI X tg iter (tI (gOf X) W b f)
def forD (f : D → Env → Oc) : List D → Env → Oc
  | [], r => .nx r
  | d :: ds, r => match f d r with
    | .nx r' => forD f ds r'
    | .ct r' => forD f ds r'
    | .bk r' => .nx r'
    | o => o
@[simp] theorem forD_nil (f : D → Env → Oc) (r : Env) : forD f [] r = .nx r := rfl
theorem forD_cons (f : D → Env → Oc) (d : D) (ds : List D) (r : Env) : forD f (d :: ds) r = match f d r with
    | .nx r' => forD f ds r'
    | .ct r' => forD f ds r'
    | .bk r' => .nx r'
    | o => o := rfl
section
variable {X : Cx} {W : Wi} {k : Kd}
theorem rs_for {tg iter : Expr} {body : List Stmt} {pos : Pos} {f : Env → Res (List D)} {g : D → Env → Res Env} {gb : Env → Oc} (hp : PassesOwn (model X.prog X.w) X.A X.env X.xe) (hc : X.calm = true) (hi : RI X W true tg iter f) (hg : RG X W.J tg g) (hb : RSs X W k body gb)
    (hs : ∀ x, foldedSetIterable iter X.env x = pure x := by intro _; rfl) : RS X W k (.For tg iter body [] pos) (fun r => lift (f r) r fun ds => forD (fun d r => (into (g d r)).seq gb) ds r) :=
  (ps_for hp hc hi hg hb hs).imp fun D σ H ⟨H0, F0, fp, F, r, m, o⟩ => ⟨H0, F0, fp, F, r, m, o.lift m fun F1 H1 ds gr o1 J w => by
    rw [if_pos rfl] at w
    refine ⟨fun i n σ H => n = ds.length - i ∧ i ≤ ds.length ∧ ∃ fp F r, Same F1 F ∧ MS (gOf X) W.J H0 F0 fp F σ H r ∧ OutS (gOf X) W k H0 F0 F D (forD (fun d r => (into (g d r)).seq gb) (ds.drop i) r),
      ⟨ds.length, by simp, Nat.zero_le _, fp, F1, r, Same.refl _, m.grow gr, by simpa using o1⟩, ?_⟩
    rintro i n σ H ⟨rfl, hi, fp, F, r, sF, m, o⟩
    by_cases hlt : i < ds.length
    · refine .inr ⟨w.goes i H hlt (sF.trans m.sub), fun σ' H' => i + 1 ≤ ds.length ∧ ∃ fp F r, Same F1 F ∧ MS (gOf X) W.J H0 F0 fp F σ' H' r ∧ OutS (gOf X) W k H0 F0 F D (forD (fun d r => (into (g d r)).seq gb) (ds.drop (i + 1)) r),
        fun σ' H' ⟨h1, h2⟩ => ⟨ds.length - (i + 1), by omega, rfl, h1, h2⟩, fun x H' y => ?_⟩
      obtain ⟨F3, d, g3, ed, rx⟩ := w.yields i F H x H' hlt sF m.sub (sF.trans m.sub) y
      have e : ds.drop i = d :: ds.drop (i + 1) := by
        rw [List.drop_eq_getElem_cons hlt]
        rw [List.getElem?_eq_getElem hlt] at ed
        rw [Option.some.inj ed]
      rw [e, forD_cons] at o
      cases e1 : g d r with
      | ok r1 =>
        rw [e1] at o
        refine ⟨H0, F0, fp, F3, r, d, m.grow g3, rx, r1, e1, fun fp' σ' m' => ⟨H0, F0, fp', F3, r1, m', ?_⟩⟩
        have o' : OutS (gOf X) W k H0 F0 F3 D _ := OutS.same o g3.f
        simp only [into_ok, nx_seq] at o'
        cases e2 : gb r1 with
        | nx r2 => rw [e2] at o'; exact fun fp2 F2 σ2 H2 q m2 => ⟨hlt, fp2, F2, r2, (sF.trans g3.f).trans q, m2, o'.same q⟩
        | ct r2 => rw [e2] at o'; exact fun fp2 F2 σ2 H2 q m2 => ⟨hlt, fp2, F2, r2, (sF.trans g3.f).trans q, m2, o'.same q⟩
        | bk r2 => rw [e2] at o'; exact o'
        | rt d2 => rw [e2] at o'; exact o'
        | er x2 r2 => rw [e2] at o'; exact o'
        | bad => rw [e2] at o'; exact o'
      | er x2 => rw [e1] at o; exact o.elim
      | bad => rw [e1] at o; exact o.elim
    · have e : i = ds.length := by omega
      subst e
      rw [List.drop_length] at o
      exact .inl ⟨w.stops H (sF.trans m.sub), o fp F σ H (Same.refl _) m⟩⟩
/-- a while of at most so many turns -/
def whileD (c : Env → Res Bool) (b : Env → Oc) : Nat → Env → Oc
  | 0, _ => .bad
  | n + 1, r => lift (c r) r fun t => if t = true then (match b r with
    | .nx r' => whileD c b n r'
    | .ct r' => whileD c b n r'
    | .bk r' => .nx r'
    | o => o) else .nx r
theorem rs_while {c : Expr} {body : List Stmt} {pos : Pos} {f : Env → Res Bool} {gb : Env → Oc} (hp : PassesOwn (model X.prog X.w) X.A X.env X.xe) (hc : RT X W c f) (hb : RSs X W k body gb) (N : Env → Nat) :
    RS X W k (.While c body [] pos) (fun r => whileD f gb (N r) r) :=
  (ps_while hp hc hb).imp fun D σ H ⟨H0, F0, fp, F, r, m, o⟩ => by
    refine ⟨fun n σ H => ∃ fp F' r, Same F F' ∧ MS (gOf X) W.J H0 F0 fp F' σ H r ∧ OutS (gOf X) W k H0 F0 F' D (whileD f gb n r), ⟨N r, fp, F, r, Same.refl _, m, o⟩, ?_⟩
    rintro n σ H ⟨fp, F1, r, s, m, o⟩
    cases n with
    | zero => exact o.elim
    | succ n =>
      refine ⟨H0, F0, fp, F1, r, m, OutS.lift m (show OutS (gOf X) W k H0 F0 F1 D (lift (f r) r _) from o) fun F2 H2 t g o2 => ?_⟩
      cases t with
      | false => exact o2 fp F2 σ H2 (Same.refl _) (m.grow g)
      | true =>
        rw [if_pos rfl]
        rw [if_pos rfl] at o2
        refine ⟨fun σ' H' => ∃ fp F' r, Same F F' ∧ MS (gOf X) W.J H0 F0 fp F' σ' H' r ∧ OutS (gOf X) W k H0 F0 F' D (whileD f gb n r), fun σ' H' q => ⟨n, Nat.lt_succ_self _, q⟩, H0, F0, fp, F2, r, m.grow g, ?_⟩
        cases e2 : gb r with
        | nx r2 => rw [e2] at o2; exact fun fp2 F3 σ2 H3 q m2 => ⟨fp2, F3, r2, (s.trans g.f).trans q, m2, o2.same q⟩
        | ct r2 => rw [e2] at o2; exact fun fp2 F3 σ2 H3 q m2 => ⟨fp2, F3, r2, (s.trans g.f).trans q, m2, o2.same q⟩
        | bk r2 => rw [e2] at o2; exact o2
        | rt d2 => rw [e2] at o2; exact o2
        | er x2 r2 => rw [e2] at o2; exact o2
        | bad => rw [e2] at o2; exact o2
end
end Mir
namespace Mir
open PySem PySem.Spec PyProof.Rows L2
variable [Tn]
/-- what a call is to leave -/
def OutC (G : GC) (E : XK) {α : Type} (F H : Hp) (P : Hp → Hp → α → Prop) : Res α → Prop
  | .ok a => ∀ F' H', Grow F H F' H' → P F' H' a
  | .er e => ∀ cls dd F' H', Grow F H F' H' → ExcIs G F' cls dd e → E cls dd H'
  | .bad => False
/-- the promise of a def of worth g -/
def spM (G : GC) (k : Kd) (g : List D → Res D) : Sp := fun vs H Q E => ∃ F ds, Same F H ∧ Tt F H ∧ RepAll G F vs ds ∧ OutC G E F H (fun F' H' d => ∀ v, k.Rep G H F' H' v d → Q v H') (g ds)
/-- the promise of an __init__: it makes of the arguments the object -/
def spI (G : GC) (c : Nat) (g : List D → Res D) : Sp := fun vs H Q E => ∃ (x dx : Addr) (vs' : List V) (F H0 : Hp) (ds : List D), vs = .ref x :: vs' ∧ H x = some (.ins (G.ca c) dx []) ∧ Same H0 H ∧ H0 x = none ∧ Same F H0 ∧ Tt F H0 ∧ RepAll G F vs' ds ∧
  OutC G E F H0 (fun F' H' d => Rep G F' (.ref x) d → Q .non H') (g ds)
def startD (n : Nat) (ds : List D) : Env := ds.map .sh ++ List.replicate (n - ds.length) .un
/-- a body's worth -/
def runD (p n : Nat) (g : Env → Oc) (ds : List D) : Res D := if ds.length = p then (match g (startD n ds) with
  | .rt d => .ok d
  | .nx _ => .ok .non
  | .er e _ => .er e
  | _ => .bad) else .bad
def runO (p n : Nat) (g : Env → Oc) (ds : List D) : Res D := if ds.length = p then (match g (startD n ds) with
  | .rt d => .ok d
  | .er e _ => .er e
  | _ => .bad) else .bad
def startI (n c : Nat) (ds : List D) : Env := .ow .flat (.obj c []) :: startD (n - 1) ds
def selfR (r : Env) : Res D := match r[0]? with
  | some (Slot.sh d) => .ok d
  | some (Slot.ow _ d) => .ok d
  | _ => .bad
/-- the worth of an __init__ -/
def runI (p n c : Nat) (g : Env → Oc) (ds : List D) : Res D := if ds.length = p then (match g (startI n c ds) with
  | .nx r => selfR r
  | .er e _ => .er e
  | _ => .bad) else .bad
section
variable {G : GC}
theorem startD_un {n : Nat} {ds : List D} {i : Nat} {s : Slot} (h : (startD n ds)[i]? = some s) : (∃ d, ds[i]? = some d ∧ s = .sh d) ∨ s = .un := by
  unfold startD at h
  by_cases hi : i < ds.length
  · rw [List.getElem?_append_left (by simpa using hi), List.getElem?_map] at h
    cases e : ds[i]? with
    | none => rw [e] at h; cases h
    | some d => rw [e] at h; cases h; exact .inl ⟨d, rfl, rfl⟩
  · rw [List.getElem?_append_right (by simpa using hi), List.getElem?_replicate] at h
    split at h
    · cases h; exact .inr rfl
    · cases h
theorem start_at {N : List Str} {vs : List V} {i : Nat} {v : V} (h : vs[i]? = some v) : (L2.start N vs)[i]? = some (some v) := by
  have hi : i < vs.length := (List.getElem?_eq_some_iff.mp h).1
  unfold L2.start
  rw [List.getElem?_append_left (by simpa using hi), List.getElem?_map, h]
  rfl
theorem ms_start {F H : Hp} {N : List Str} {vs : List V} {ds : List D} (s : Same F H) (tt : Tt F H) (r : RepAll G F vs ds) : MS G (fun _ => True) H F (fun _ => []) F (L2.start N vs) H (startD N.length ds) where
  jo := trivial
  s0 := Stays.refl
  f0 := Same.refl _
  sub := s
  new := fun _ _ e => .inl e
  len := by
    unfold L2.start startD
    have := r.length
    simp only [List.length_append, List.length_map, List.length_replicate]
    omega
  sh := fun i d e => by
    rcases startD_un e with ⟨d', e1, e2⟩ | e2
    · cases e2
      obtain ⟨v, h1, h2⟩ := r.get e1
      exact ⟨v, start_at h1, h2⟩
    · cases e2
  ow := fun i s d e => by
    rcases startD_un e with ⟨_, _, z⟩ | z <;> cases z
  t0 := tt
  ap := fun i j s t d e _ h1 _ => by
    rcases startD_un h1 with ⟨_, _, z⟩ | z <;> cases z
end
section
variable {P : Program} {w : World} {K : PySem.W.Frag} {mg : Str → Option Value} {base : Heap}
abbrev WD (E : XK) : Wi := ⟨fun cls d _ H => E cls d H, fun _ => True⟩
theorem spM_len {G : GC} {k : Kd} {n : Nat} {g : List D → Res D} (hg : ∀ ds, ds.length ≠ n → g ds = .bad) : ∀ vs H Q E, spM G k g vs H Q E → vs.length = n := fun vs H Q E ⟨F, ds, _, _, r, o⟩ => by
  by_cases h : ds.length = n
  · rw [r.length]; exact h
  · rw [hg ds h] at o; exact o.elim
/-- A DEF by its body (what it gives is shared) -/
theorem fn_ok {x qual : Str} {st : Stmt} {f : Addr} {fd : FuncData} {N ps : List Str} {k : Nat} {g : Env → Oc} (F : Fun K x qual st f fd) (S : FnScope N ps (defScope st))
    (hb : ∀ (cdv : Value) (A : Around) (outer : List PySem.Env) (s : Shared) (H : Hp) (E : XK), Room k (A.deeper (envOfC qual (defScope st) s.heap.objs.size f cdv)) →
      RSs (cxOf (L2.CX P w) P w K mg base N qual (defScope st) f cdv A outer s H E) (WD E) .S (defBody st) g) : FnOk P w K mg base (L2.CX P w) (k + 1) f fd ps (spM ⟨P, w, K, mg⟩ .S (runD ps.length N.length g)) := by
  refine F.okX S (spM_len fun ds h => if_neg h) fun cdv A outer s H vs Q E hr ⟨F0, ds, s0, tt, r, o⟩ => ⟨_, hb cdv A outer s H E hr, H, F0, _, F0, _, ms_start s0 tt r, ?_⟩
  unfold runD at o
  split at o
  case isFalse => exact o.elim
  cases e : g (startD N.length ds) with
  | nx r' =>
    rw [e] at o
    exact fun fp F' σ' H' _ m => o F' H' m.g0 .non .non
  | rt d =>
    rw [e] at o
    exact fun F' H' v _ gr kr => o F' H' gr v kr
  | er x r' =>
    rw [e] at o
    exact fun fp F' σ' H' cls dd _ m ex => o cls dd F' H' m.g0 ex
  | bk r' => rw [e] at o; exact o.elim
  | ct r' => rw [e] at o; exact o.elim
  | bad => rw [e] at o; exact o.elim
end
/-- a def of the module by its name -/
structure FnM (P : Program) (w : World) (K : PySem.W.Frag) (mg : Str → Option Value) (base : Heap) (j : Nat) (x : Str) (k : Kd) (g : List D → Res D) : Prop where
  ex : ∃ (f : Addr) (fd : FuncData) (ps : List Str), FnOk P w K mg base (L2.CX P w) j f fd ps (spM ⟨P, w, K, mg⟩ k g) ∧ mg x = some (.ref f) ∧ PySem.W.keepIn K (.ref f) = true ∧ Binds K fd ps []
/-- a method m of the class c -/
structure MtM (P : Program) (w : World) (K : PySem.W.Frag) (mg : Str → Option Value) (base : Heap) (j : Nat) (m : Str) (c : Nat) (k : Kd) (g : List D → Res D) : Prop where
  ex : ∃ (f : Addr) (fd : FuncData) (ps : List Str), FnOk P w K mg base (L2.CX P w) j f fd ps (spM ⟨P, w, K, mg⟩ k g) ∧ Meth K ((⟨P, w, K, mg⟩ : GC).ca c) m f ∧ Binds K fd ps []
  cl : Cls K ((⟨P, w, K, mg⟩ : GC).ca c)
  no : m ∉ cflds c
/-- the class c is made by its __init__ -/
structure MkM (P : Program) (w : World) (K : PySem.W.Frag) (mg : Str → Option Value) (base : Heap) (j : Nat) (c : Nat) (g : List D → Res D) : Prop where
  ex : ∃ (f : Addr) (fd : FuncData) (ps : List Str), FnOk P w K mg base (L2.CX P w) j f fd ps (spI ⟨P, w, K, mg⟩ c g) ∧ Mk K ((⟨P, w, K, mg⟩ : GC).ca c) f ∧ mg (cname c) = some (.ref ((⟨P, w, K, mg⟩ : GC).ca c)) ∧ Binds K fd ps []
/-- an attribute f, by classes: its place -/
structure FldM (K : PySem.W.Frag) (ca : Nat → Addr) (f : Str) (p : Nat → Option Nat) : Prop where
  h : ∀ c i, p c = some i → (cflds c)[i]? = some f ∧ (cflds c).Nodup ∧ Cls K (ca c) ∧ NoAttr K (ca c) f
theorem lookup_zip {f : Str} : ∀ {l : List Str} {ws : List V} {i : Nat} {v : V}, l.Nodup → l[i]? = some f → ws[i]? = some v → (l.zip ws).lookup f = some v
  | [], _, _, _, _, h, _ => by simp at h
  | _ :: _, [], _, _, _, _, h => by simp at h
  | a :: l, w :: ws, 0, v, _, h, q => by
    simp at h q
    subst h q
    simp [List.lookup]
  | a :: l, w :: ws, i + 1, v, n, h, q => by
    have hm : f ∈ l := List.mem_of_getElem? (by simpa using h)
    have ne : f ≠ a := fun e => (List.nodup_cons.mp n).1 (e ▸ hm)
    have e : (f == a) = false := by simpa using ne
    rw [List.zip_cons_cons, List.lookup_cons, e]
    exact lookup_zip (i := i) (List.nodup_cons.mp n).2 (by simpa using h) (by simpa using q)
theorem lookup_zip_none {f : Str} : ∀ {l : List Str} {ws : List V}, f ∉ l → (l.zip ws).lookup f = none
  | [], _, _ => rfl
  | _ :: _, [], _ => rfl
  | a :: l, w :: ws, h => by
    have ne : f ≠ a := fun e => h (e ▸ List.mem_cons_self)
    have e : (f == a) = false := by simpa using ne
    rw [List.zip_cons_cons, List.lookup_cons, e]
    exact lookup_zip_none fun q => h (List.mem_cons_of_mem _ q)
/-- an attribute of an object -/
def fldD (p : Nat → Option Nat) (d : D) : Res D := match d with
  | .obj c vs => match p c with
    | some i => match vs[i]? with
      | some d => .ok d
      | none => .bad
    | none => .bad
  | _ => .bad
/-- the method of an object -/
def mthD (mt : Nat → Option (List D → Res D)) (d : D) : Res (List D → Res D) := match d with
  | .obj c vs => match mt c with
    | some g => .ok fun ds => g (.obj c vs :: ds)
    | none => .bad
  | _ => .bad
theorem fldD_er {p : Nat → Option Nat} {d e : D} (h : fldD p d = .er e) : False := by
  unfold fldD at h
  split at h
  · split at h
    · split at h <;> cases h
    · cases h
  · cases h
theorem fldD_ok {p : Nat → Option Nat} {d e : D} (h : fldD p d = .ok e) : ∃ c vs i, d = .obj c vs ∧ p c = some i ∧ vs[i]? = some e := by
  unfold fldD at h
  split at h
  · rename_i c vs
    split at h
    · rename_i i hp
      split at h
      · rename_i d' hv
        cases h
        exact ⟨c, vs, i, rfl, hp, hv⟩
      · cases h
    · cases h
  · cases h
theorem mthD_er {mt : Nat → Option (List D → Res D)} {d e : D} (h : mthD mt d = .er e) : False := by
  unfold mthD at h
  split at h
  · split at h <;> cases h
  · cases h
theorem mthD_ok {mt : Nat → Option (List D → Res D)} {d : D} {g' : List D → Res D} (h : mthD mt d = .ok g') : ∃ c vs g, d = .obj c vs ∧ mt c = some g ∧ g' = fun ds => g (.obj c vs :: ds) := by
  unfold mthD at h
  split at h
  · rename_i c vs
    split at h
    · rename_i g hm
      cases h
      exact ⟨c, vs, g, rfl, hm, rfl⟩
    · cases h
  · cases h
section
variable {X : Cx} {W : Wi} {k : Kd} {e o : Expr} {es : List Expr} {p pos apos : Pos}
theorem OutC.of {G : GC} {W : Wi} {σ : L2.St} {F H : Hp} {α : Type} {P : Hp → Hp → α → Prop} {x : Res α} (h : Out G W σ F H P x) : OutC G (WE W.w σ) F H P x := by
  cases x <;> exact h
theorem spM_of {G : GC} {W : Wi} {σ : L2.St} {F H1 H : Hp} {g : List D → Res D} {vs : List V} {ds : List D} {Q : VK} (s : Same F H) (tt : Tt F H) (hs : Fre H1 H) (r : RepAll G F vs ds)
    (o : Out G W σ F H (fun F' H' d => ∀ v, k.Rep G H1 F' H' v d → Q v H') (g ds)) : spM G k g vs H Q (WE W.w σ) :=
  ⟨F, ds, s, tt, r, OutC.of (o.imp fun F' H' d _ q v kv => q v (kv.later hs))⟩
/-- f(e, ..) -/
theorem re_call {j : Nat} {x : Str} {g : List D → Res D} {fa : Env → Res (List D)} (M : FnM X.prog X.w X.K X.mg X.base j x k g) (hr : Room j X.A) (tk : Takes X W.w) (ha : RA X W (e :: es) fa) (hg : Gl X x := by rfl)
    (hdb : (x == ("__debug__" : Str)) = false := by decide) (he : starEach (e :: es) X.env = (false, eval e X.env) :: starEach es X.env := by rfl) (hpl : (backTo pos (starEach es X.env)).any (·.1) = false := by rfl) :
    RE X W k (.Call (.Name x p) (e :: es) [] pos) (fun r => fa r >>= g) := by
  obtain ⟨f, fd, ps, F, hm, hk, hb⟩ := M.ex
  refine ⟨fun pins s σ H Q I ⟨H0, F0, fp, F1, r, m, o⟩ => ?_⟩
  refine wpAny_Call_Name_kw (ld_glob I hg hm ?_ hdb)
  have hw : tA (gOf X) W fa σ H fun vs H1 => spM (gOf X) k g vs H1 Q (WE W.w σ) := ⟨H0, F0, fp, F1, r, m, o.bind fun F2 H2 ds gr o2 vs rv => spM_of gr.sub (gr.h.tt m.tt) gr.h.fre rv o2⟩
  refine PySem.W.callWith_K (h₀ := X.base) I.ok.mod.kin hk (thn (ha.run pos pins s σ H _ I hw) fun us s1 ⟨vs, H1, I1, r1, q⟩ => ⟨I1.kIn, ?_⟩) he hpl
  exact run_fnS F hr hb (passAt tk σ) I1 r1 q
/-- o.f -/
theorem re_fld {f : Str} {pt : Nat → Option Nat} {fo : Env → Res D} (M : FldM X.K (gOf X).ca f pt) (ho : RE X W .S o fo) (hb : attributeBase o f X.env (eval o X.env) = eval o X.env := by rfl) : RE X W .S (.Attribute o f pos) (fun r => fo r >>= fldD pt) :=
  (pe_fld ho hb).imp fun σ H Q ⟨H0, F0, fp, F, r, m, oo⟩ => ⟨H0, F0, fp, F, r, m, oo.bind fun F' H' d gr o2 v kv => by
    cases ef : fldD pt d with
    | er x => exact (fldD_er ef).elim
    | bad => rw [ef] at o2; exact o2.elim
    | ok d' =>
      obtain ⟨c, vs, i, rfl, hp, hv⟩ := fldD_ok ef
      rw [ef] at o2
      have kv' : Rep (gOf X) F' v (.obj c vs) := kv
      cases kv' with
      | @obj a dx _ ws _ ha hz ra =>
        obtain ⟨h1, h2, h3, h4⟩ := M.h c i hp
        obtain ⟨w, hw, rw'⟩ := ra.get hv
        exact ⟨a, _, dx, _, w, rfl, gr.sub _ _ ha, h3, h4, lookup_zip h2 h1 hw, o2 F' H' (Grow.refl gr.sub) w rw'⟩⟩
/-- o.m(e, ..) -/
theorem re_meth {j : Nat} {mn : Str} {mt : Nat → Option (List D → Res D)} {fo : Env → Res D} {fa : Env → Res (List D)} {pl : Sem Bool} (M : ∀ c g, mt c = some g → MtM X.prog X.w X.K X.mg X.base j mn c k g) (hr : Room j X.A) (tk : Takes X W.w) (ho : RE X W .S o fo) (ha : RA X W (e :: es) fa)
    (he : starEach (e :: es) X.env = (false, eval e X.env) :: starEach es X.env := by rfl) (hpl : (backTo pos (starEach es X.env)).any (·.1) = false := by rfl)
    (ht : eval (.Call (.Attribute o mn apos) (e :: es) [] pos) X.env = (do
      let ov ← eval o X.env
      standAt apos.atName
      let (f, first) ← holding [ov] (getMethod ov mn pl)
      callWith pos f first (backTo pos (starEach (e :: es) X.env)) (backToKw pos (keywordEach [] X.env))) := by rfl) :
    RE X W k (.Call (.Attribute o mn apos) (e :: es) [] pos) (fun r => fo r >>= fun d => mthD mt d >>= fun g => fa r >>= g) := by
  refine ⟨fun pins s σ H Q I ⟨H0, F0, fp, F, r, m, oo⟩ => methcall_of ho I ⟨H0, F0, fp, F, r, m, oo.bind fun F1 H1 d gr o2 v kv => ?_⟩ ht⟩
  cases em : mthD mt d with
  | er x => exact (mthD_er em).elim
  | bad => rw [em] at o2; exact o2.elim
  | ok g' =>
    obtain ⟨c, vs, g, rfl, hc, rfl⟩ := mthD_ok em
    rw [em] at o2
    have kv' : Rep (gOf X) F1 v (.obj c vs) := kv
    obtain ⟨⟨f, fd, ps, FO, hmt, hb⟩, hcl, hno⟩ := M c g hc
    cases hkv : kv' with
    | @obj a dx _ ws _ hat hz ra =>
      refine ⟨a, _, dx, _, f, rfl, gr.sub _ _ hat, hcl, hmt, lookup_zip_none hno, fun s1 I1 => ?_⟩
      have hw : tA (gOf X) W fa σ H1 fun us H2 => spM (gOf X) k g (.ref a :: us) H2 Q (WE W.w σ) := ⟨H0, F0, fp, F1, r, m.grow gr, Out.bind o2 fun F2 H2 ds gr2 o3 us ru =>
        spM_of gr2.sub (gr2.h.tt (gr.h.tt m.tt)) (gr.h.trans gr2.h).fre (.cons (kv'.mono gr2.f) ru) o3⟩
      refine PySem.W.callWith_K (first := [.ref a]) (h₀ := X.base) I1.ok.mod.kin hmt.kp (thn (ha.run pos pins s1 σ H1 _ I1 hw) fun us s2 ⟨vs2, H2, I2, r2, q2⟩ => ⟨I2.kIn, ?_⟩) he hpl
      exact run_fnS (us := .ref a :: us) (vs := .ref a :: vs2) FO hr hb (passAt tk σ) I2 (.cons rfl r2) q2
theorem re_meth0 {j : Nat} {mn : Str} {mt : Nat → Option (List D → Res D)} {fo : Env → Res D} {pl : Sem Bool} (M : ∀ c g, mt c = some g → MtM X.prog X.w X.K X.mg X.base j mn c k g) (hr : Room j X.A) (tk : Takes X W.w) (ho : RE X W .S o fo)
    (ht : eval (.Call (.Attribute o mn apos) [] [] pos) X.env = (do
      let ov ← eval o X.env
      standAt apos.atName
      let (f, first) ← holding [ov] (getMethod ov mn pl)
      callWith pos f first (backTo pos (starEach [] X.env)) (backToKw pos (keywordEach [] X.env))) := by rfl) :
    RE X W k (.Call (.Attribute o mn apos) [] [] pos) (fun r => fo r >>= fun d => mthD mt d >>= fun g => g []) := by
  refine ⟨fun pins s σ H Q I ⟨H0, F0, fp, F, r, m, oo⟩ => methcall_of ho I ⟨H0, F0, fp, F, r, m, oo.bind fun F1 H1 d gr o2 v kv => ?_⟩ ht⟩
  cases em : mthD mt d with
  | er x => exact (mthD_er em).elim
  | bad => rw [em] at o2; exact o2.elim
  | ok g' =>
    obtain ⟨c, vs, g, rfl, hc, rfl⟩ := mthD_ok em
    rw [em] at o2
    have kv' : Rep (gOf X) F1 v (.obj c vs) := kv
    obtain ⟨⟨f, fd, ps, FO, hmt, hb⟩, hcl, hno⟩ := M c g hc
    cases hkv : kv' with
    | @obj a dx _ ws _ hat hz ra =>
      refine ⟨a, _, dx, _, f, rfl, gr.sub _ _ hat, hcl, hmt, lookup_zip_none hno, fun s1 I1 => ?_⟩
      exact PySem.W.callWith_K0 (first := [.ref a]) I1.kIn hmt.kp (run_fnS (us := [.ref a]) (vs := [.ref a]) FO hr hb (passAt tk σ) I1 (.cons rfl .nil) (spM_of gr.sub (gr.h.tt m.tt) gr.h.fre (.cons kv' .nil) o2))
end
end Mir
namespace Mir
open PySem PySem.Spec PyProof.Rows L2
variable [Tn]
section
variable {X : Cx} {CX : CXT} {k : Nat} {f C : Addr} {fd : FuncData} {ps : List Str} {sp : Sp} {E : L2.St → XK}
/-- a new instance and its __init__, what is raised wished for at the names' values -/
theorem run_makeS {pins : List (Addr × Obj)} {σ : L2.St} {H : Hp} {s : Shared} {Q : VK} {us : List Value} {vs : List V} (M : Mk X.K C f) (F : FnOk X.prog X.w X.K X.mg X.base CX k f fd ps sp) (hr : Room (k + 1) X.A) (hb : Binds X.K fd ps []) (hx : PassesAt CX X σ (E σ)) (I : Inv X pins σ H s) (r : Vals vs us)
    (h : ∀ x dx, H x = none → H dx = none → dx ≠ x → sp (.ref x :: vs) (upd (upd H dx (.own x)) x (.ins C dx [])) (fun v H2 => v = .non ∧ Q (.ref x) H2) (E σ)) : wpAny (model X.prog X.w) X.A (call (.ref C) us) (EP X pins σ Q) X.xe s := by
  have n1 : H (s.heap.objs.size + 1) = none := I.hok.fresh (Nat.le_succ _)
  have n0 : H s.heap.objs.size = none := I.hok.fresh (Nat.le_refl _)
  have due := h _ _ n1 n0 (Nat.ne_of_lt (Nat.lt_succ_self _))
  have J := Inv.made (C := C) I
  have rr : Vals (V.ref (s.heap.objs.size + 1) :: vs) (Value.ref (s.heap.objs.size + 1) :: us) := .cons rfl r
  have hl : (Value.ref (s.heap.objs.size + 1) :: us).length = ps.length := (F.len _ _ _ _ due) ▸ rr.length.symm
  have bt := hb _ (Value.ref (s.heap.objs.size + 1) :: us) J.kIn (by rw [List.append_nil]; exact hl)
  rw [List.append_nil] at bt
  refine wpAny_call (make_map (f := f) I.kIn M.makes M.init (beq_iff_eq.mp M.fn) (codeAny_mono (F.run _ X.stack _ _ _ _ _ _ (E σ) (hr.make C us []) (J.env0.make C us []) bt rr due) fun res s' q => ?_))
  match res, q with
  | .error e, q => exact hx pins _ _ e s' J q
  | .ok (.ret u), q =>
    obtain ⟨v, H', I', rv, ev, q'⟩ := J.after q
    subst ev
    exact ⟨rv, ⟨V.ref (s.heap.objs.size + 1), H', I', rfl, q'⟩⟩
  | .ok .next, q => exact q.elim
  | .ok .brk, q => exact q.elim
  | .ok .cont, q => exact q.elim
end
section
variable {X : Cx} {W : Wi} {e : Expr} {es : List Expr} {p pos : Pos}
theorem spI_of {G : GC} {W : Wi} {σ : L2.St} {F H1 H : Hp} {c : Nat} {g : List D → Res D} {vs : List V} {ds : List D} {Q : VK} (s : Same F H) (tt : Tt F H) (r : RepAll G F vs ds)
    (o : Out G W σ F H (fun F' H' d => ∀ v, Kd.S.Rep G H1 F' H' v d → Q v H') (g ds)) : ∀ x dx, H x = none → H dx = none → dx ≠ x →
      spI G c g (.ref x :: vs) (upd (upd H dx (.own x)) x (.ins (G.ca c) dx [])) (fun v H2 => v = .non ∧ Q (.ref x) H2) (WE W.w σ) := fun x dx nx ndx ne =>
  ⟨x, dx, vs, F, H, ds, rfl, upd_same, fun b o e => by rw [upd_ne (ne_of_none e nx), upd_ne (ne_of_none e ndx)]; exact e, nx, s, tt, r, OutC.of (o.imp fun F' H' d _ q rv => ⟨rfl, q (.ref x) rv⟩)⟩
/-- C(e, ..) -/
theorem re_make {j c : Nat} {x : Str} {g : List D → Res D} {fa : Env → Res (List D)} (M : MkM X.prog X.w X.K X.mg X.base j c g) (hr : Room (j + 1) X.A) (tk : Takes X W.w) (ha : RA X W (e :: es) fa) (hx : x = cname c := by rfl) (hg : Gl X x := by rfl)
    (hdb : (x == ("__debug__" : Str)) = false := by decide) (he : starEach (e :: es) X.env = (false, eval e X.env) :: starEach es X.env := by rfl) (hpl : (backTo pos (starEach es X.env)).any (·.1) = false := by rfl) :
    RE X W .S (.Call (.Name x p) (e :: es) [] pos) (fun r => fa r >>= g) := by
  subst hx
  obtain ⟨f, fd, ps, F, hmk, hm, hb⟩ := M.ex
  refine ⟨fun pins s σ H Q I ⟨H0, F0, fp, F1, r, m, o⟩ => ?_⟩
  refine wpAny_Call_Name_kw (ld_glob I hg hm ?_ hdb)
  have hw : tA (gOf X) W fa σ H fun vs H1 => ∀ x dx, H1 x = none → H1 dx = none → dx ≠ x → spI (gOf X) c g (.ref x :: vs) (upd (upd H1 dx (.own x)) x (.ins ((gOf X).ca c) dx [])) (fun v H2 => v = .non ∧ Q (.ref x) H2) (WE W.w σ) :=
    ⟨H0, F0, fp, F1, r, m, o.bind fun F2 H2 ds gr o2 vs rv => spI_of gr.sub (gr.h.tt m.tt) rv o2⟩
  refine PySem.W.callWith_K (h₀ := X.base) I.ok.mod.kin hmk.kp (thn (ha.run pos pins s σ H _ I hw) fun us s1 ⟨vs, H1, I1, r1, q⟩ => ⟨I1.kIn, ?_⟩) he hpl
  exact run_makeS hmk F hr hb (passAt tk σ) I1 r1 q
end
section
variable {G : GC}
theorem spI_len {c n : Nat} {g : List D → Res D} (hg : ∀ ds, ds.length ≠ n → g ds = .bad) : ∀ vs H Q E, spI G c g vs H Q E → vs.length = n + 1 := fun vs H Q E ⟨x, dx, vs', F, H0, ds, ev, _, _, _, _, _, r, o⟩ => by
  by_cases h : ds.length = n
  · rw [ev, List.length_cons, r.length, h]
  · rw [hg ds h] at o; exact o.elim
theorem ms_startI {c : Nat} {x dx : Addr} {F H0 H : Hp} {N : List Str} {vs : List V} {ds : List D} (hx : H x = some (.ins (G.ca c) dx [])) (s0 : Same H0 H) (nx : H0 x = none) (s : Same F H0) (tt : Tt F H0) (r : RepAll G F vs ds) (hN : 0 < N.length) :
    MS G (fun σ => σ[0]? = some (some (.ref x))) H0 F (fun _ => [x]) F (L2.start N (.ref x :: vs)) H (startI N.length c ds) where
  jo := start_at rfl
  s0 := .of s0 (Same.refl _) (fun _ _ e => .inl e)
  f0 := Same.refl _
  sub := s.trans s0
  new := fun _ _ e => .inl e
  len := by
    unfold L2.start startI startD
    have := r.length
    simp only [List.length_append, List.length_map, List.length_replicate, List.length_cons]
    omega
  sh := fun i d e => by
    cases i with
    | zero => cases e
    | succ i =>
      rcases startD_un (show (startD (N.length - 1) ds)[i]? = some (.sh d) from e) with ⟨d', e1, e2⟩ | e2
      · cases e2
        obtain ⟨v, h1, h2⟩ := r.get e1
        exact ⟨v, start_at (by simpa using h1), h2⟩
      · cases e2
  ow := fun i t d e => by
    cases i with
    | zero =>
      cases e
      refine ⟨⟨.ref x, start_at rfl, ?_⟩, fun a ha => by rw [List.mem_singleton.mp ha]; exact nx⟩
      refine Own.obj (ws := []) (dx := dx) rfl (by rw [List.zip_nil_right]; exact hx) (s.free nx) (Nat.zero_le _) .nil (by simp)
    | succ i =>
      rcases startD_un (show (startD (N.length - 1) ds)[i]? = some (.ow t d) from e) with ⟨_, _, z⟩ | z <;> cases z
  ap := fun i j t u d e ne h1 h2 => by
    have z : ∀ {i : Nat} {t : Shape} {d : D}, (startI N.length c ds)[i]? = some (.ow t d) → i = 0 := fun {i t d} h => by
      cases i with
      | zero => rfl
      | succ i =>
        rcases startD_un (show (startD (N.length - 1) ds)[i]? = some (.ow t d) from h) with ⟨_, _, z⟩ | z <;> cases z
    exact absurd ((z h1).trans (z h2).symm) ne
  t0 := tt
end
section
variable {P : Program} {w : World} {K : PySem.W.Frag} {mg : Str → Option Value} {base : Heap}
abbrev WI (x : Addr) (E : XK) : Wi := ⟨fun cls d _ H => E cls d H, fun σ => σ[0]? = some (some (.ref x))⟩
theorem fn_okI {qual : Str} {st : Stmt} {f : Addr} {fd : FuncData} {N ps : List Str} {k c : Nat} {g : Env → Oc} (F : Fun K "__init__" qual st f fd) (S : FnScope N ps (defScope st)) (hps : 0 < ps.length)
    (hb : ∀ (cdv : Value) (A : Around) (outer : List PySem.Env) (s : Shared) (H : Hp) (E : XK) (x : Addr), Room k (A.deeper (envOfC qual (defScope st) s.heap.objs.size f cdv)) →
      RSs (cxOf (L2.CX P w) P w K mg base N qual (defScope st) f cdv A outer s H E) (WI x E) .S (defBody st) g) : FnOk P w K mg base (L2.CX P w) (k + 1) f fd ps (spI ⟨P, w, K, mg⟩ c (runI (ps.length - 1) N.length c g)) := by
  have hNl : ps.length ≤ N.length := by have := congrArg List.length S.pre; rw [List.length_take] at this; omega
  refine F.okX S (fun vs H Q E h => (spI_len (n := ps.length - 1) (fun ds h => if_neg h) vs H Q E h).trans (by omega)) fun cdv A outer s H vs Q E hr ⟨x, dx, vs', F1, H0, ds, ev, hx, s0, nx, sF, tt0, r, o⟩ => ?_
  subst ev
  refine ⟨_, hb cdv A outer s H E x hr, H0, F1, _, F1, _, ms_startI hx s0 nx sF tt0 r (by omega), ?_⟩
  unfold runI at o
  split at o
  case isFalse => exact o.elim
  cases e : g (startI N.length c ds) with
  | rt d => rw [e] at o; exact o.elim
  | er y r' =>
    rw [e] at o
    exact fun fp F' σ' H' cls dd _ m ex => o cls dd F' H' m.g0 ex
  | nx r' =>
    rw [e] at o
    intro fp F' σ' H' _ m
    have o' : OutC _ E F1 H0 _ (selfR r') := o
    have j0 : σ'[0]? = some (some (.ref x)) := m.jo
    cases e2 : selfR r' with
    | er y => unfold selfR at e2; split at e2 <;> cases e2
    | bad => rw [e2] at o'; exact o'.elim
    | ok d =>
      rw [e2] at o'
      obtain ⟨F2, _, m2⟩ := m.freeze 0
      have hs : (freeze 0 r')[0]? = some (.sh d) := by
        unfold selfR at e2
        split at e2
        · rename_i d' hd
          cases e2
          unfold freeze
          rw [hd]
          exact hd
        · rename_i t d' hd
          cases e2
          unfold freeze
          rw [hd]
          exact List.getElem?_set_self (List.getElem?_eq_some_iff.mp hd).1
        · cases e2
      obtain ⟨v, hv, rv⟩ := m2.sh 0 d hs
      rw [j0] at hv
      cases hv
      exact o' F2 H' m2.g0 rv
  | bk r' => rw [e] at o; exact o.elim
  | ct r' => rw [e] at o; exact o.elim
  | bad => rw [e] at o; exact o.elim
end
section
variable {G : GC} {F H F' H' : Hp}
theorem OwnAll.snoc {f f' : Nat → Shape} {s : Shape} {v : V} {d : D} {B : List Addr} (q : Own G F H s v d B) : ∀ {n : Nat} {vs : List V} {ds : List D} {A : List Addr}, OwnAll G F H f n vs ds A → (∀ j, n ≤ j → j < n + vs.length → f' j = f j) → f' (n + vs.length) = s → (∀ a ∈ A, a ∉ B) →
    OwnAll G F H f' n (vs ++ [v]) (ds ++ [d]) (A ++ B)
  | n, [], _, _, .nil, _, h2, _ => by
    have z : OwnAll G F H f' n [v] [d] (B ++ []) := .cons (by rw [show f' n = s from h2]; exact q) .nil (fun _ _ h => nomatch h)
    rw [List.append_nil] at z
    exact z
  | n, v' :: vs, d' :: ds, _, .cons (A := A1) (B := A2) r t x, h1, h2, h3 => by
    rw [List.append_assoc]
    refine .cons (by rw [h1 n (Nat.le_refl _) (by simp)]; exact r) (OwnAll.snoc q t (fun j a b => h1 j (by omega) (by simp only [List.length_cons]; omega)) (by rw [← h2]; congr 1; simp only [List.length_cons]; omega) fun a ha => h3 a (List.mem_append_right _ ha)) fun a ha hb => ?_
    rcases List.mem_append.mp hb with z | z
    · exact x a ha z
    · exact h3 a (List.mem_append_left _ ha) z
theorem OwnAll.length {f : Nat → Shape} : ∀ {n : Nat} {vs : List V} {ds : List D} {A : List Addr}, OwnAll G F H f n vs ds A → vs.length = ds.length
  | _, _, _, _, .nil => rfl
  | _, _, _, _, .cons _ t _ => congrArg (· + 1) (OwnAll.length t)
theorem Keep.upd {A : List Addr} {a : Addr} {o : HO} (h : a ∉ A) : Keep A F H F (upd H a o) := ⟨fun b hb u e => by rw [upd_ne (fun z => h (by rw [← z]; exact hb))]; exact e, Same.refl _, fun _ _ z => z⟩
theorem putF_zip {f : Str} {y : V} : ∀ {l : List Str} {ws : List V}, l.Nodup → l[ws.length]? = some f → putF f y (l.zip ws) = l.zip (ws ++ [y])
  | [], ws, _, h => by simp at h
  | a :: l, [], _, h => by
    simp at h
    subst h
    show [(a, y)] = _
    rw [List.nil_append, List.zip_cons_cons, List.zip_nil_right]
  | a :: l, w :: ws, n, h => by
    have h' : l[ws.length]? = some f := by simpa using h
    have hm : f ∈ l := List.mem_of_getElem? h'
    have ne : ¬ a = f := fun e => (List.nodup_cons.mp n).1 (e ▸ hm)
    rw [List.cons_append, List.zip_cons_cons, List.zip_cons_cons, ← putF_zip (List.nodup_cons.mp n).2 h']
    show (if a = f then _ else _) = _
    rw [if_neg ne]
/-- an owned thing is written: the state behind -/
theorem MS.write {J : L2.St → Prop} {H0 F0 : Hp} {fp : Nat → List Addr} {σ : L2.St} {r : Env} (m : MS G J H0 F0 fp F σ H r) {i : Nat} {s s' : Shape} {d d' : D} {v : V} {a : Addr} {o : HO} {A : List Addr} (hi : r[i]? = some (.ow s d)) (hv : σ[i]? = some (some v)) (ha : a ∈ fp i)
    (q : Own G F (upd H a o) s' v d' A) (hA : ∀ b ∈ A, b ∈ fp i ∨ (H b = none ∨ (H0 b = none ∧ ∀ j, j ≠ i → ∀ t e, r[j]? = some (.ow t e) → b ∉ fp j))) : ∃ fp', MS G J H0 F0 fp' F σ (upd H a o) (r.set i (.ow s' d')) := by
  have hil : i < r.length := (List.getElem?_eq_some_iff.mp hi).1
  obtain ⟨⟨v0, hv0, o0⟩, hn⟩ := m.ow i s d hi
  have h0 : H0 a = none := hn a ha
  have f0 : F a = none := (o0.there a (by assumption)).1
  have notA : ∀ j t e, j ≠ i → r[j]? = some (.ow t e) → a ∉ fp j := fun j t e ne h z => m.ap i j s t d e (Ne.symm ne) hi h a ha z
  refine ⟨fun j => if j = i then A else fp j, m.jo, m.s0.upd h0, m.f0, fun b u e => ?_, m.new, by simpa using m.len, fun j e h => ?_, fun j t e h => ?_, fun j k t u e1 e2 ne h1 h2 b => ?_, m.t0⟩
  · rw [upd_ne (ne_of_none e f0)]; exact m.sub b u e
  · rcases get_set_slot h with ⟨_, x, _⟩ | ⟨ne, h⟩
    · cases x
    · exact m.sh j e h
  · rcases get_set_slot h with ⟨rfl, x, hl⟩ | ⟨ne, h⟩
    · cases x
      rw [if_pos rfl]
      refine ⟨⟨v, hv, q⟩, fun b hb => ?_⟩
      rcases hA b hb with z | z | z
      · exact hn b z
      · exact m.s0.free z
      · exact z.1
    · rw [if_neg (Ne.symm ne)]
      obtain ⟨⟨u, q1, q2⟩, q3⟩ := m.ow j t e h
      exact ⟨⟨u, q1, q2.keep (Keep.upd (notA j t e (Ne.symm ne) h))⟩, q3⟩
  · have other : ∀ j t e, j ≠ i → r[j]? = some (.ow t e) → ∀ b ∈ A, b ∉ fp j := fun j t e ne h b hb z => by
      rcases hA b hb with y | y | y
      · exact m.ap i j s t d e (Ne.symm ne) hi h b y z
      · obtain ⟨⟨_, _, o3⟩, _⟩ := m.ow j t e h
        obtain ⟨_, w, e3⟩ := o3.there b z
        rw [y] at e3
        cases e3
      · exact y.2 j ne t e h z
    rcases get_set_slot h1 with ⟨rfl, x, _⟩ | ⟨n1, h1⟩
    · rcases get_set_slot h2 with ⟨z, _, _⟩ | ⟨n2, h2⟩
      · exact absurd z ne
      · rw [if_pos rfl, if_neg (Ne.symm n2)]
        exact other k u e2 (Ne.symm n2) h2 b
    · rcases get_set_slot h2 with ⟨rfl, x, _⟩ | ⟨n2, h2⟩
      · rw [if_pos rfl, if_neg (Ne.symm n1)]
        exact fun hb hz => other j t e1 (Ne.symm n1) h1 b hz hb
      · rw [if_neg (Ne.symm n1), if_neg (Ne.symm n2)]
        exact m.ap j k t u e1 e2 ne h1 h2 b
end
/-- a class that may be made and read -/
structure ClM (K : PySem.W.Frag) (ca : Nat → Addr) (f : Str) (c : Nat) : Prop where
  cl : Cls K (ca c)
  no : NoAttr K (ca c) f
  nd : (cflds c).Nodup
/-- the n-th part is of the shape t -/
def Shape.setKid (s : Shape) (n : Nat) (t : Shape) : Shape := match t with
  | .sh => s
  | t => .parts ((List.range n).map s.kid ++ [t])
/-- the n-th part is none of one's own as yet -/
def Shape.fits (s : Shape) (n : Nat) : Bool := match s with
  | .parts l => decide (l.length ≤ n)
  | .opts _ => false
  | _ => true
theorem Shape.kid_fits {s : Shape} {n : Nat} (h : s.fits n = true) : s.kid n = .sh := by
  cases s with
  | parts l =>
    have h' : l.length ≤ n := of_decide_eq_true h
    show l.getD n .sh = .sh
    rw [List.getD_eq_getElem?_getD, List.getElem?_eq_none h']
    rfl
  | opts l => cases h
  | _ => rfl
theorem Shape.setKid_own {s : Shape} {n : Nat} {t : Shape} (h : s.own = true) : (s.setKid n t).own = true := by
  cases t with
  | sh => exact h
  | _ => rfl
theorem Shape.setKid_at {s : Shape} {n : Nat} {t : Shape} (h : s.fits n = true) : (s.setKid n t).kid n = t := by
  have e : ∀ t, Shape.kid (.parts ((List.range n).map s.kid ++ [t])) n = t := fun t => by
    show (_ ++ [t]).getD n .sh = t
    rw [List.getD_eq_getElem?_getD, List.getElem?_append_right (by simp)]
    simp
  cases t with
  | sh => exact Shape.kid_fits h
  | flat => exact e _
  | parts l => exact e _
  | opts l => exact e _
theorem Shape.setKid_lt {s : Shape} {n j : Nat} {t : Shape} (h : j < n) : (s.setKid n t).kid j = s.kid j := by
  have e : ∀ t, Shape.kid (.parts ((List.range n).map s.kid ++ [t])) j = s.kid j := fun t => by
    show (_ ++ [t]).getD j .sh = _
    rw [List.getD_eq_getElem?_getD, List.getElem?_append_left (by simpa using h), List.getElem?_map, List.getElem?_range h]
    rfl
  cases t with
  | sh => rfl
  | flat => exact e _
  | parts l => exact e _
  | opts l => exact e _
section
variable {X : Cx} {W : Wi} {k : Kd} {e : Expr} {f : Str} {pos p' ps : Pos} {fe : Env → Res D}
theorem re_shO {e : Expr} {f : Env → Res D} (h : RE X W .S e f) : RE X W (.O .sh) e f :=
  h.imp fun σ H Q ⟨H0, F0, fp, F, r, m, o⟩ => ⟨H0, F0, fp, F, r, m, o.imp fun F' H' d _ p v kv => p v ⟨[], .sh kv, fun _ z => nomatch z⟩⟩
/-- the next attribute of the object in slot i -/
def setF (i c : Nat) (f : Str) (s : Shape) (d : D) (r : Env) : Oc := match r[i]? with
  | some (.ow g (.obj c' vs)) => if c' = c ∧ (cflds c)[vs.length]? = some f ∧ g.own = true ∧ g.fits vs.length = true then .nx (r.set i (.ow (g.setKid vs.length s) (.obj c (vs ++ [d])))) else .bad
  | _ => .bad
theorem rs_fldO (i c : Nat) {s : Shape} {x : Str} (M : ClM X.K (gOf X).ca f c) (he : RE X W (.O s) e fe) (hN : X.N[i]? = some x := by rfl) (hv : Vis X.env.scope x := by first | exact Or.inl rfl | exact Or.inr (Or.inl rfl)) (hd : (x == ("__debug__" : Str)) = false := by decide)
    (hcd : (x == ("__classdict__" : Str)) = false := by decide) (hs : swapsWith e (some (.Attribute (.Name x ps) f p')) pos.line X.env = pure false := by rfl) :
    RS X W k (.Assign [.Attribute (.Name x ps) f p'] e pos) (fun r => lift (fe r) r fun d => setF i c f s d r) :=
  (ps_fld (pe_var hN hv hd hcd) he hs).imp fun D σ H ⟨H0, F0, fp, F, r, m, o⟩ => ⟨H0, F0, fp, F, r, m, o.lift m fun F' H' d gr o' v ⟨B, ob, nb⟩ => by
    unfold setF at o'
    split at o'
    · rename_i g c' vs hi
      split at o'
      · rename_i hc
        obtain ⟨rfl, hf, go, gf⟩ := hc
        have m' := m.grow gr
        obtain ⟨⟨w, hw, ow⟩, hn⟩ := m'.ow i _ _ hi
        have hff : fp i = fp i := rfl
        generalize hA : fp i = A at ow hn
        cases ow with
        | sh _ => cases go
        | @obj _ a dx _ ws _ A' _ ha fa hz oa na =>
          have hl := oa.length
          refine ⟨.ref a, hw, a, (gOf X).ca c', dx, _, rfl, ha, M.cl, M.no, ?_, ?_⟩
          · rw [List.length_zip]
            have : (cflds c').length ≤ 8 := by
              unfold cflds
              split <;> decide
            omega
          · rw [putF_zip M.nd (by rw [hl]; exact hf)]
            have ain : a ∈ fp i := by rw [hA]; exact List.mem_cons_self
            have aB : a ∉ B := fun z => by
              obtain ⟨⟨_, q1, q2⟩, _⟩ := m.ow i _ _ hi
              obtain ⟨_, u, e⟩ := q2.there a ain
              rw [nb a z] at e
              cases e
            have AB : ∀ b ∈ A', b ∉ B := fun b hb z => by
              obtain ⟨⟨_, q1, q2⟩, _⟩ := m.ow i _ _ hi
              obtain ⟨_, u, e⟩ := q2.there b (by rw [hA]; exact List.mem_cons_of_mem _ hb)
              rw [nb b z] at e
              cases e
            have q : Own (gOf X) F' (upd H' a (.ins ((gOf X).ca c') dx ((cflds c').zip (ws ++ [v])))) (g.setKid vs.length s) (.ref a) (.obj c' (vs ++ [d])) (a :: (A' ++ B)) := by
              refine .obj (Shape.setKid_own go) upd_same fa ?_ (OwnAll.snoc (f := g.kid) (ob.keep (Keep.upd aB)) (oa.keep (Keep.upd na)) (fun j _ hj => ?_) ?_ AB) fun z => (List.mem_append.mp z).elim na aB
              · rw [List.length_append]
                have := (List.getElem?_eq_some_iff.mp hf).1
                simp only [List.length_cons, List.length_nil]
                omega
              · exact Shape.setKid_lt (by omega)
              · rw [Nat.zero_add, hl]
                exact Shape.setKid_at gf
            obtain ⟨fp', m2⟩ := m'.write hi hw ain q fun b hb => by
              rcases List.mem_cons.mp hb with z | z
              · exact .inl (by rw [hA, z]; exact List.mem_cons_self)
              · rcases List.mem_append.mp z with z | z
                · exact .inl (by rw [hA]; exact List.mem_cons_of_mem _ z)
                · refine .inr (.inr ⟨m.s0.free (nb b z), fun j ne t e h y => ?_⟩)
                  obtain ⟨⟨_, _, q2⟩, _⟩ := m.ow j t e h
                  obtain ⟨_, u, e⟩ := q2.there b y
                  rw [nb b z] at e
                  cases e
            exact o' fp' F' σ _ (Same.refl _) m2
      · exact o'.elim
    · exact o'.elim⟩
/-- self.f = e, shared -/
theorem rs_fldS (i c : Nat) {x : Str} (M : ClM X.K (gOf X).ca f c) (he : RE X W .S e fe) (hN : X.N[i]? = some x := by rfl) (hv : Vis X.env.scope x := by first | exact Or.inl rfl | exact Or.inr (Or.inl rfl)) (hd : (x == ("__debug__" : Str)) = false := by decide)
    (hcd : (x == ("__classdict__" : Str)) = false := by decide) (hs : swapsWith e (some (.Attribute (.Name x ps) f p')) pos.line X.env = pure false := by rfl) :
    RS X W k (.Assign [.Attribute (.Name x ps) f p'] e pos) (fun r => lift (fe r) r fun d => setF i c f .sh d r) :=
  rs_fldO i c M (re_shO he) hN hv hd hcd hs
end
end Mir
namespace Mir
open PySem PySem.Spec PyProof.Rows L2
variable [Tn]
abbrev veT : List Value := [.type "ValueError", .type "Exception", .type "BaseException", .type "object"]
/-- an own error class without own __init__ -/
structure ExM0 (K : PySem.W.Frag) (mg : Str → Option Value) (C : Addr) (c : Nat) : Prop where
  gC : mg (cname c) = some (.ref C)
  ex : PySem.W.excIn K C veT "ValueError.__new__" = true
  kC : PySem.W.keepIn K (.ref C) = true
  sb : PySem.W.subIn K (.ref C) (.type "BaseException") = some true
  ty : PySem.W.typeIn K (.ref C) = some (.type "type")
  no : cflds c = []
/-- the promise of an error's __init__: the attributes fl, the last one stored first in it -/
def spE (C : Addr) (fl : List Str) : Sp := fun vs H Q _ => ∃ (a : Addr) (ys : List V), vs = .ref a :: ys ∧ ys.length = fl.length ∧ H a = some (exo a C none) ∧ ∀ dx, H dx = none → dx ≠ a → Q .non (upd (upd H dx (exd dx (fl.zip ys.reverse))) a (exo a C (some dx)))
/-- an own error class with an __init__ that stores what it is given -/
structure ExMA (P : Program) (w : World) (K : PySem.W.Frag) (mg : Str → Option Value) (base : Heap) (C : Addr) (c : Nat) : Prop where
  gC : mg (cname c) = some (.ref C)
  T : OexC K C
  ex : ∃ (f : Addr) (fd : FuncData) (ps : List Str), FnOk P w K mg base (L2.CX P w) 1 f fd ps (spE C (cflds c)) ∧ PySem.W.findIn K (.ref C) "__init__" = some (some (.ref f)) ∧ PySem.W.typeIn K (.ref f) = some (.type "function") ∧ Binds K fd ps []
theorem ca_of {G : GC} {c : Nat} {C : Addr} (h : G.mg (cname c) = some (.ref C)) : G.ca c = C := by
  unfold GC.ca
  rw [h]
section
variable {X : Cx} {W : Wi} {k : Kd} {C : Addr} {c : Nat} {x : Str} {p pos pos2 : Pos} {e : Expr} {es : List Expr}
/-- X() -/
theorem pmk_own0 (M : ExM0 X.K X.mg C c) (hx : x = cname c) (hg : Gl X x) (hdb : (x == ("__debug__" : Str)) = false) : PMk X (.Call (.Name x p) [] [] pos) (fun _ H Q => Q (.ref C) none H) := by
  subst hx
  intro pins s σ H Q I h
  refine wpAny_Call_Name_kw (ld_glob I hg M.gC ?_ hdb)
  refine PySem.W.callWith_K0 I.kIn M.kC ?_
  obtain ⟨bm, N, nm, qn, bs, hdct, sn, sub, ab, col, dd, k0, k1, k2, k3, k5, mN, hC, hN, hni, T⟩ := exc_obj I.kIn M.ex
  refine wpAny_call_exc_subT PySem.F.excBase_ValueError T hC hN hni (fun h' e hm => ?_) (Nat.zero_le _)
  exact mk_of I hm (raises_own M.sb M.ty) h (I.hok.gone hm.new)
theorem rs_raise0 (M : ExM0 X.K X.mg C c) (hc : X.calm = true) (tk : Takes X W.w) (hx : x = cname c := by rfl) (hg : Gl X x := by rfl) (hdb : (x == ("__debug__" : Str)) = false := by decide) :
    RS X W k (.Raise (some (.Call (.Name x p) [] [] pos)) none pos2) (fun r => .er (.exc c []) r) :=
  (ps_raise hc tk (pmk_own0 M hx hg hdb)).imp fun D σ H ⟨H0, F0, fp, F, r, m, o⟩ =>
    o fp F σ H _ _ (Same.refl _) m ⟨c, [], [], rfl, by rw [ca_of (G := gOf X) M.gC], .nil, .inl ⟨rfl, M.no, rfl⟩⟩
/-- X(e, ..) -/
theorem rs_raise (M : ExMA X.prog X.w X.K X.mg X.base C c) (hc : X.calm = true) (tk : Takes X W.w) (hr : Room 2 X.A) {fa : Env → Res (List D)} (ha : RA X W (e :: es) fa) (hl : (e :: es).length ≤ 1000 := by decide) (hx : x = cname c := by rfl) (hg : Gl X x := by rfl) (hdb : (x == ("__debug__" : Str)) = false := by decide)
    (he : starEach (e :: es) X.env = (false, eval e X.env) :: starEach es X.env := by rfl) (hpl : (backTo pos (starEach es X.env)).any (·.1) = false := by rfl) :
    RS X W k (.Raise (some (.Call (.Name x p) (e :: es) [] pos)) none pos2) (fun r => lift (fa r) r fun ds => if ds.length = (cflds c).length ∧ ds.length ≤ 1000 then .er (.exc c ds.reverse) r else .bad) := by
  subst hx
  obtain ⟨f, fd, ps, F1, iC, tI, hb⟩ := M.ex
  refine (ps_raise hc tk (pmk_oex M.T iC tI F1 hr hb .nil (passL (X := X)) hg M.gC ha hdb he hpl)).imp fun D σ H ⟨H0, F0, fp, F, r, m, o⟩ => ⟨H0, F0, fp, F, r, m, o.lift m fun F' H' ds gr o' vs rv => ?_⟩
  split at o'
  · rename_i hl
    have hlen := rv.length
    refine ⟨by omega, fun a na => ⟨a, vs, by simp, by omega, upd_same, fun dx ndx ne => ⟨rfl, dx, _, upd_same, by rw [upd_ne ne, upd_same], ?_, ?_⟩⟩⟩
    · rw [upd_ne ne] at ndx
      exact ndx
    · rw [upd_ne ne] at ndx
      have eH : upd (del (upd (upd (upd H' a (exo a C none)) dx (exd dx ((cflds c).zip vs.reverse))) a (exo a C (some dx))) a) dx (.xd ((cflds c).zip vs.reverse)) = upd H' dx (.xd ((cflds c).zip vs.reverse)) := by
        funext b
        by_cases hb : b = dx
        · rw [hb, upd_same, upd_same]
        · rw [upd_ne hb, upd_ne hb]
          by_cases ha : b = a
          · rw [ha, del_same, na]
          · rw [del_ne ha, upd_ne ha, upd_ne hb, upd_ne ha]
      rw [eH]
      have nF : F' dx = none := gr.sub.free ndx
      have s1 : Same F' (upd F' dx (.xd ((cflds c).zip vs.reverse))) := fun b u q => by rw [upd_ne (ne_of_none q nF)]; exact q
      have g2 : Grow F' H' (upd F' dx (.xd ((cflds c).zip vs.reverse))) (upd H' dx (.xd ((cflds c).zip vs.reverse))) := Grow.of
        (fun b u q => by rw [upd_ne (ne_of_none q ndx)]; exact q)
        s1
        (fun b u q => by
          by_cases hb : b = dx
          · subst hb; rw [upd_same] at q ⊢; exact q
          · rw [upd_ne hb] at q ⊢; exact gr.sub b u q)
        (fun b u q => by
          by_cases hb : b = dx
          · subst hb; exact .inr ndx
          · rw [upd_ne hb] at q; exact .inl q)
      exact o' fp _ σ _ _ _ g2.f ((m.grow gr).grow g2) ⟨c, vs.reverse, ds.reverse, rfl, by rw [ca_of (G := gOf X) M.gC], (rv.mono s1).reverse, .inr ⟨dx, rfl, upd_same, by rw [List.length_reverse]; omega⟩⟩
  · exact o'.elim
end
section
variable {P : Program} {w : World} {K : PySem.W.Frag} {mg : Str → Option Value} {base : Heap} {C f : Addr} {fd : FuncData} {st : Stmt} {qual fn gn pn qn : Str}
theorem exc1_ok (F : Fun K "__init__" qual st f fd) (S : FnScope ([("self" : Str), pn]) ([("self" : Str), pn]) (defScope st)) (T : OexC K C) (no : PySem.W.findIn K (.ref C) fn = some none)
    (hb : ∀ X : Cx, X.N = [("self" : Str), pn] → X.env.scope = defScope st → PSs X (defBody st) (tOst X.K fn (tVar 0) (tVar 1))) : FnOk P w K mg base (L2.CX P w) 1 f fd [("self" : Str), pn] (spE C [fn]) := by
  refine F.okX S (fun vs H Q E ⟨a, ys, e, hl, _⟩ => by rw [e, List.length_cons, hl]; rfl) fun cdv A outer s H vs Q E hr ⟨a, ys, e, hl, ha, k⟩ => ?_
  subst e
  match ys, hl with
  | [y], _ => exact ⟨_, hb _ rfl rfl, _, rfl, _, rfl, a, C, rfl, T, no, .inl ⟨ha, fun dx nd ne => k dx nd ne⟩⟩
theorem exc2_ok (F : Fun K "__init__" qual st f fd) (S : FnScope ([("self" : Str), pn, qn]) ([("self" : Str), pn, qn]) (defScope st)) (T : OexC K C) (no : PySem.W.findIn K (.ref C) fn = some none) (no2 : PySem.W.findIn K (.ref C) gn = some none)
    (hb : ∀ X : Cx, X.N = [("self" : Str), pn, qn] → X.env.scope = defScope st → PSs X (defBody st) (tSeq (tOst X.K fn (tVar 0) (tVar 1)) (tOst X.K gn (tVar 0) (tVar 2)))) : FnOk P w K mg base (L2.CX P w) 1 f fd [("self" : Str), pn, qn] (spE C [gn, fn]) := by
  refine F.okX S (fun vs H Q E ⟨a, ys, e, hl, _⟩ => by rw [e, List.length_cons, hl]; rfl) fun cdv A outer s H vs Q E hr ⟨a, ys, e, hl, ha, k⟩ => ?_
  subst e
  match ys, hl with
  | [y, z], _ =>
    refine ⟨_, hb _ rfl rfl, _, rfl, _, rfl, a, C, rfl, T, no, .inl ⟨ha, fun dx nd ne => ⟨_, rfl, _, rfl, a, C, rfl, T, no2, .inr ⟨dx, [(fn, y)], upd_same, by rw [upd_ne ne, upd_same], (by show 1 ≤ 900; decide), ?_⟩⟩⟩⟩
    have q := k dx nd ne
    have eH : upd (upd (upd H dx (exd dx [(fn, y)])) a (exo a C (some dx))) dx (exd dx [(gn, z), (fn, y)]) = upd (upd H dx (exd dx [(gn, z), (fn, y)])) a (exo a C (some dx)) := by
      funext b
      by_cases hb : b = dx
      · rw [hb, upd_same, upd_ne ne, upd_same]
      · rw [upd_ne hb]
        by_cases hba : b = a
        · rw [hba, upd_same, upd_same]
        · rw [upd_ne hba, upd_ne hb, upd_ne hba, upd_ne hb]
    show Q .non _
    rw [eH]
    exact q
end
end Mir
namespace Mir
open PySem PySem.Spec PyProof.Rows L2
variable [Tn]
/-- the longest list that is looked after -/
def lim : Nat := 1000000
theorem lim_le : lim ≤ sizeLine := by rw [sizeLine_eq]; decide
section
variable {G : GC} {F H F' H' : Hp} {v : V} {d : D}
theorem RdD.grow (h : RdD G F H v d) (g : Grow F H F' H') : RdD G F' H' v d := h.elim (fun r => .inl (r.mono g.f)) fun ⟨A, o⟩ => .inr ⟨A, o.grow g⟩
theorem RdD.int {i : Int} (h : RdD G F H v (.int i)) : v = .int i := by
  rcases h with h | ⟨A, h⟩ <;> cases h
  rfl
theorem RdD.bl {i : Bool} (h : RdD G F H v (.bl i)) : v = .bl i := by
  rcases h with h | ⟨A, h⟩ <;> cases h
  rfl
theorem RdD.str {i : Str} (h : RdD G F H v (.str i)) : v = .str i := by
  rcases h with h | ⟨A, h⟩ <;> cases h
  rfl
theorem RdD.non (h : RdD G F H v .non) : v = .non := by
  rcases h with h | ⟨A, h⟩ <;> cases h
  rfl
theorem RdD.lst {ds : List D} (s : Same F H) (h : RdD G F H v (.lst ds)) : ∃ a vs, v = .ref a ∧ H a = some (.lst vs) ∧ RepAll G F vs ds := by
  rcases h with h | ⟨A, h⟩
  · cases h with
    | lst e r => exact ⟨_, _, rfl, s _ _ e, r⟩
  · cases h with
    | lst _ e _ r _ => exact ⟨_, _, rfl, e, r.to_rep.2⟩
theorem RdD.tupS {ds : List D} (h : RdD G F H v (.tup ds)) : Rep G F v (.tup ds) := by
  rcases h with h | ⟨A, h⟩
  · exact h
  · cases h with
    | tup e => cases e
theorem RdD.tup {ds : List D} (s : Same F H) (h : RdD G F H v (.tup ds)) : ∃ a vs, v = .ref a ∧ SqT G.K H a vs ∧ RepAll G F vs ds := by
  cases h.tupS with
  | tup e r => exact ⟨_, _, rfl, Same.sqT s e, r⟩
theorem RdD.scr {ns : List Int} (s : Same F H) (h : RdD G F H v (.scr ns)) : ∃ a, v = .ref a ∧ SqL G.K H a (ns.map V.int) := by
  rcases h with h | ⟨A, h⟩
  · cases h with
    | scr e => exact ⟨_, rfl, s.seq e⟩
  · cases h
theorem RdD.obj {c : Nat} {vs : List D} (s : Same F H) (h : RdD G F H v (.obj c vs)) : ∃ a dx fs, v = .ref a ∧ H a = some (.ins (G.ca c) dx fs) := by
  rcases h with h | ⟨A, h⟩
  · cases h with
    | obj e _ _ => exact ⟨_, _, _, rfl, s _ _ e⟩
  · cases h with
    | obj _ e _ _ _ _ => exact ⟨_, _, _, rfl, e⟩
theorem RdD.dic {ks vs : List D} (s : Same F H) (h : RdD G F H v (.dic ks vs)) : ∃ a o xs ws, v = .ref a ∧ H a = some (.ext (isObj' a o)) ∧ (a == sysModules) = false ∧ DicO G o xs ∧ Vals ws (xs.map (·.2.2)) ∧ RepAll G F (xs.map fun x => V.ref x.2.1) ks ∧ ks.map keyOf = xs.map (fun x => some x.1) ∧ RepAll G F ws vs := by
  rcases h with h | ⟨A, h⟩
  · cases h with
    | dic e z1 z2 z3 z4 z5 r => exact ⟨_, _, _, _, rfl, s _ _ e, z1, z2, z3, z4, z5, r⟩
  · cases h with
    | dic _ e _ z1 z2 z3 z4 z5 r _ => exact ⟨_, _, _, _, rfl, e, z1, z2, z3, z4, z5, r.to_rep.2⟩
/-- a new object, shared -/
theorem Grow.mk1 {p : Addr} {o : HO} (s : Same F H) (hp : H p = none) : Grow F H (upd F p o) (upd H p o) := Grow.of
  (fun b u q => by rw [upd_ne (ne_of_none q hp)]; exact q)
  (fun b u q => by rw [upd_ne (ne_of_none (s b u q) hp)]; exact q)
  (fun b u q => by
    by_cases hb : b = p
    · subst hb; rw [upd_same] at q ⊢; exact q
    · rw [upd_ne hb] at q ⊢; exact s b u q)
  (fun b u q => by
    by_cases hb : b = p
    · subst hb; exact .inr hp
    · rw [upd_ne hb] at q; exact .inl q)
/-- a new object, one's own -/
theorem Grow.own {p : Addr} {o : HO} (s : Same F H) (hp : H p = none) : Grow F H F (upd H p o) := Grow.of
  (fun b u q => by rw [upd_ne (ne_of_none q hp)]; exact q)
  (Same.refl _)
  (fun b u q => by rw [upd_ne (ne_of_none (s b u q) hp)]; exact s b u q)
  (fun b u q => .inl q)
end
def toPy : D → Option PyData
  | .non => some .none
  | .bl b => some (.bool b)
  | .int i => some (.int i)
  | .str s => some (.str s)
  | .tup xs => (toPys xs).map .tuple
  | .lst xs => (toPys xs).map .list
  | _ => none
where toPys : List D → Option (List PyData)
  | [] => some []
  | x :: xs => match toPy x, toPys xs with
    | some p, some ps => some (p :: ps)
    | _, _ => none
mutual
theorem Rep.dp {G : GC} {F H : Hp} (s : Same F H) : ∀ {v : V} {d : D} {p : PyData}, Rep G F v d → toPy d = some p → Dp G.K H v p
  | _, _, _, .non, e => by simp only [toPy, Option.some.injEq] at e; subst e; exact .non
  | _, _, _, .bl b, e => by simp only [toPy, Option.some.injEq] at e; subst e; exact .bl b
  | _, _, _, .int i, e => by simp only [toPy, Option.some.injEq] at e; subst e; exact .int i
  | _, _, _, .str x, e => by simp only [toPy, Option.some.injEq] at e; subst e; exact .str x
  | _, _, _, .tup h r, e => by
    simp only [toPy, Option.map_eq_some_iff] at e
    obtain ⟨ps, e1, e2⟩ := e
    subst e2
    exact .tup (Same.sqT s h) (RepAll.dp s r e1)
  | _, _, _, .lst h r, e => by
    simp only [toPy, Option.map_eq_some_iff] at e
    obtain ⟨ps, e1, e2⟩ := e
    subst e2
    exact .lst (.of (s _ _ h)) (RepAll.dp s r e1)
  | _, _, _, .scr _, e => by simp [toPy] at e
  | _, _, _, .dic _ _ _ _ _ _ _, e => by simp [toPy] at e
  | _, _, _, .obj _ _ _, e => by simp [toPy] at e
  | _, _, _, .exc _ _, e => by simp [toPy] at e
  | _, _, _, .excF _ _ _ _, e => by simp [toPy] at e
  | _, _, _, .cls _, e => by simp [toPy] at e
  | _, _, _, .ty _, e => by simp [toPy] at e
theorem RepAll.dp {G : GC} {F H : Hp} (s : Same F H) : ∀ {vs : List V} {ds : List D} {ps : List PyData}, RepAll G F vs ds → toPy.toPys ds = some ps → DpAll G.K H vs ps
  | _, _, _, .nil, e => by simp only [toPy.toPys, Option.some.injEq] at e; subst e; exact .nil
  | _, _, _, .cons r t, e => by
    rw [toPy.toPys] at e
    split at e
    · rename_i p ps h1 h2
      cases e
      exact .cons (Rep.dp s r h1) (RepAll.dp s t h2)
    · cases e
end
theorem RdD.dp {G : GC} {F H : Hp} {v : V} {d : D} {p : PyData} (s : Same F H) (h : RdD G F H v d) (e : toPy d = some p) : Dp G.K H v p := by
  rcases h with h | ⟨A, h⟩
  · exact h.dp s e
  · cases h with
    | lst _ h _ r _ =>
      simp only [toPy, Option.map_eq_some_iff] at e
      obtain ⟨ps, e1, e2⟩ := e
      subst e2
      exact .lst (.of h) (r.to_rep.2.dp s e1)
    | tup z => cases z
    | dic => simp [toPy] at e
    | obj => simp [toPy] at e
def addD : D → D → Res D
  | .int i, .int j => .ok (.int (i + j))
  | .str s, .str t => if s.length + t.length ≤ lim then .ok (.str (s ++ t)) else .bad
  | .tup xs, .tup ys => if xs.length + ys.length ≤ lim then .ok (.tup (xs ++ ys)) else .bad
  | .lst xs, .lst ys => if xs.length + ys.length ≤ lim then .ok (.lst (xs ++ ys)) else .bad
  | _, _ => .bad
def subD : D → D → Res D
  | .int i, .int j => .ok (.int (i - j))
  | _, _ => .bad
/-- the bits of a number -/
def bits (i : Int) : Nat := i.natAbs.log2
instance (i j : Int) : Decidable (CMul i j) := by unfold CMul; infer_instance
def mulD : D → D → Res D
  | .int i, .int j => if bits i + bits j < 1000000 ∨ CMul i j then .ok (.int (i * j)) else .bad
  | .lst xs, .int k => if k ≤ 1000 ∧ 0 ≤ k ∧ xs.length ≤ 1000 then .ok (.lst (List.replicate k.toNat xs).flatten) else .bad
  | .tup xs, .int k => if k ≤ 1000 ∧ 0 ≤ k ∧ xs.length ≤ 1000 then .ok (.tup (List.replicate k.toNat xs).flatten) else .bad
  | _, _ => .bad
def modD : D → D → Res D
  | .int i, .int j => if 0 < j then .ok (.int (i % j)) else .bad
  | _, _ => .bad
def divD : D → D → Res D
  | .int i, .int j => if 0 < j ∧ bits j < 9000 then .ok (.int (i / j)) else .bad
  | _, _ => .bad
def cmpD (p : Int → Int → Bool) : D → D → Res D
  | .int i, .int j => .ok (.bl (p i j))
  | _, _ => .bad
def eqS (a b : D) : Res D := match toPy a, toPy b with
  | some p, some q => if SeqAt.shaped p = true ∧ SeqAt.shaped q = true then .ok (.bl (PyData.eqv p q)) else .bad
  | _, _ => .bad
def neS (a b : D) : Res D := match toPy a, toPy b with
  | some p, some q => if SeqAt.shaped p = true ∧ SeqAt.shaped q = true then .ok (.bl (!PyData.eqv p q)) else .bad
  | _, _ => .bad
def isN : D → D → Res D
  | .non, .non => .ok (.bl true)
  | _, .non => .ok (.bl false)
  | _, _ => .bad
def notN : D → D → Res D
  | .non, .non => .ok (.bl false)
  | _, .non => .ok (.bl true)
  | _, _ => .bad
section
variable {X : Cx}
theorem opD_I {rr : R2} {op : D → D → Res D} (h : ∀ a b d, op a b = .ok d → ∃ i j r, a = .int i ∧ b = .int j ∧ (∀ F, Rep (gOf X) F r d) ∧ ∀ (H : Hp) (Q : VK), Q r H → rr (.int i) (.int j) H Q) : OpD (gOf X) rr .R .R .S op := fun F H x y a b d Q Ha Hb s ka kb e k => by
  obtain ⟨i, j, r, rfl, rfl, hr, q⟩ := h a b d e
  rw [RdD.int (show RdD _ _ _ x _ from ka), RdD.int (show RdD _ _ _ y _ from kb)]
  exact q H Q (k r F H (Grow.refl s) (hr F))
theorem sub_ok : OpD (gOf X) (rI0 fun i j => .int (i - j)) .R .R .S subD := opD_I fun a b d e => by
  unfold subD at e
  split at e <;> cases e
  exact ⟨_, _, _, rfl, rfl, fun F => .int _, fun H Q q => ⟨_, _, rfl, rfl, q⟩⟩
theorem mod_ok : OpD (gOf X) (rI (fun _ j => 0 < j) fun i j => .int (i % j)) .R .R .S modD := opD_I fun a b d e => by
  unfold modD at e
  split at e
  · split at e <;> cases e
    rename_i h
    exact ⟨_, _, _, rfl, rfl, fun F => .int _, fun H Q q => ⟨_, _, rfl, rfl, h, q⟩⟩
  · cases e
theorem div_ok : OpD (gOf X) (rI CDivW fun i j => .int (i / j)) .R .R .S divD := opD_I fun a b d e => by
  unfold divD at e
  split at e
  · split at e <;> cases e
    rename_i h
    exact ⟨_, _, _, rfl, rfl, fun F => .int _, fun H Q q => ⟨_, _, rfl, rfl, h, q⟩⟩
  · cases e
theorem cmp_ok {p : Int → Int → Bool} : OpD (gOf X) (rI0 fun i j => .bl (p i j)) .R .R .S (cmpD p) := opD_I fun a b d e => by
  unfold cmpD at e
  split at e <;> cases e
  exact ⟨_, _, _, rfl, rfl, fun F => .bl _, fun H Q q => ⟨_, _, rfl, rfl, q⟩⟩
theorem eq_ok : OpD (gOf X) (rEqD X.K) .R .R .S eqS := fun F H x y a b d Q Ha Hb s ka kb e k => by
  unfold eqS at e
  split at e
  · rename_i p q h1 h2
    split at e <;> cases e
    rename_i h
    exact ⟨p, q, RdD.dp s (show RdD (gOf X) F H x a from ka) h1, RdD.dp s (show RdD (gOf X) F H y b from kb) h2, h.1, h.2, k _ F H (Grow.refl s) (.bl _)⟩
  · cases e
theorem ne_ok : OpD (gOf X) (rNeD X.K) .R .R .S neS := fun F H x y a b d Q Ha Hb s ka kb e k => by
  unfold neS at e
  split at e
  · rename_i p q h1 h2
    split at e <;> cases e
    rename_i h
    exact ⟨p, q, RdD.dp s (show RdD (gOf X) F H x a from ka) h1, RdD.dp s (show RdD (gOf X) F H y b from kb) h2, h.1, h.2, k _ F H (Grow.refl s) (.bl _)⟩
  · cases e
theorem RdD.non_iff {G : GC} {F H : Hp} {v : V} {d : D} (h : RdD G F H v d) : decide (v = .non) = (match d with | .non => true | _ => false) := by
  rcases h with h | ⟨A, h⟩ <;> cases h <;> simp
theorem isN_ok : OpD (gOf X) (fun x y H Q => y = .non ∧ Q (.bl (decide (x = .non))) H) .R .R .S isN := fun F H x y a b d Q Ha Hb s ka kb e k => by
  have z := RdD.non_iff (show RdD (gOf X) F H x a from ka)
  unfold isN at e
  split at e <;> cases e
  · exact ⟨RdD.non kb, by rw [z]; exact k _ F H (Grow.refl s) (.bl _)⟩
  · refine ⟨RdD.non kb, ?_⟩
    have z2 : decide (x = .non) = false := by
      rw [z]
      split
      · rename_i h; exact absurd rfl h
      · rfl
    rw [z2]
    exact k _ F H (Grow.refl s) (.bl _)
theorem notN_ok : OpD (gOf X) (fun x y H Q => y = .non ∧ Q (.bl (!decide (x = .non))) H) .R .R .S notN := fun F H x y a b d Q Ha Hb s ka kb e k => by
  have z := RdD.non_iff (show RdD (gOf X) F H x a from ka)
  unfold notN at e
  split at e <;> cases e
  · exact ⟨RdD.non kb, by rw [z]; exact k _ F H (Grow.refl s) (.bl _)⟩
  · refine ⟨RdD.non kb, ?_⟩
    have z2 : decide (x = .non) = false := by
      rw [z]
      split
      · rename_i h; exact absurd rfl h
      · rfl
    rw [z2]
    exact k _ F H (Grow.refl s) (.bl _)
def rAddA (K : PySem.W.Frag) : R2 := fun x y H Q => (rI0 (fun i j => .int (i + j)) x y H Q ∨ ∃ i j, x = .str i ∧ y = .str j ∧ i.length + j.length ≤ sizeLine ∧ Q (.str (i ++ j)) H) ∨ (rCatA K x y H Q ∨ rCat x y H Q)
theorem op_addA : OpR X (binaryOp .Add) (rAddA X.K) := (op_add.or op_add_str).or (op_catA.or op_cat)
theorem add_ok : OpD (gOf X) (rAddA X.K) .R .R .S addD := fun F H x y a b d Q Ha Hb s ka kb e k => by
  have ka : RdD (gOf X) F H x a := ka
  have kb : RdD (gOf X) F H y b := kb
  unfold addD at e
  split at e
  · cases e
    exact .inl (.inl ⟨_, _, ka.int, kb.int, k _ F H (Grow.refl s) (.int _)⟩)
  · split at e <;> cases e
    rename_i h
    exact .inl (.inr ⟨_, _, ka.str, kb.str, Nat.le_trans h lim_le, k _ F H (Grow.refl s) (.str _)⟩)
  · split at e <;> cases e
    rename_i h
    obtain ⟨p, vs, rfl, h1, r1⟩ := ka.tup s
    obtain ⟨q, ws, rfl, h2, r2⟩ := kb.tup s
    refine .inr (.inl ⟨p, q, vs, ws, rfl, rfl, h1, h2, Nat.le_trans (by rw [r1.length, r2.length]; exact h) lim_le, fun z => ?_, fun _ z => ?_, fun _ _ t ht => ?_⟩)
    · subst z
      cases r1
      exact k _ F H (Grow.refl s) kb.tupS
    · subst z
      cases r2
      rw [List.append_nil] at k
      exact k _ F H (Grow.refl s) ka.tupS
    · exact k _ _ _ (Grow.mk1 s ht) (Rep.tup (.of upd_same) ((r1.append r2).mono (Grow.mk1 s ht).f))
  · split at e <;> cases e
    rename_i h
    obtain ⟨p, vs, rfl, h1, r1⟩ := ka.lst s
    obtain ⟨q, ws, rfl, h2, r2⟩ := kb.lst s
    exact .inr (.inr ⟨p, q, vs, ws, rfl, rfl, h1, h2, Nat.le_trans (by rw [r1.length, r2.length]; exact h) lim_le, fun t ht => k _ _ _ (Grow.mk1 s ht) (Rep.lst upd_same ((r1.append r2).mono (Grow.mk1 s ht).f))⟩)
  · cases e
theorem rep_all {G : GC} {F : Hp} {vs : List V} {ds : List D} (r : RepAll G F vs ds) : ∀ n : Nat, RepAll G F (List.replicate n vs).flatten (List.replicate n ds).flatten
  | 0 => .nil
  | n + 1 => by
    rw [List.replicate_succ, List.flatten_cons, List.replicate_succ, List.flatten_cons]
    exact r.append (rep_all r n)
theorem tuple_mulOne (l : Addr) (items : Array Value) (n : Nat) (dd : Option Addr) (sl : Array (Option Value)) (x : Int) (u : Tok) (c0 : (decide (x < -(2 ^ 63)) || decide (x ≥ 2 ^ 63)) = false) (c1 : (items.isEmpty || x == 1) = true) :
    Meets (Builtin.«tuple.__mul__» ⟨[.ref l, .int x u], []⟩) (fun _ R s => s.heap.get? l = some { cls := .type "tuple", dict := dd, data := .seq items n, slots := sl } ∧
      R (.ok (.ret (Value.ref l))) s) :=
  .of_wp fun prog w A R s h => by
    obtain ⟨hp, g, d, tk, os⟩ := s
    obtain ⟨hl, h⟩ := h
    have f1 := AutoSeq1.idx_int
    wp_walk using wpAny_loadPart' hl
    repeat (first
      | (refine wpAny_ite_false (decide_eq_false (by rw [c0]; exact Bool.false_ne_true)) ?_; wp_walk using wpAny_loadPart' hl)
      | (refine wpAny_ite_true (decide_eq_true (by rw [c1])) ?_; wp_walk using wpAny_loadPart' hl))
    exact ⟨_, rfl, h⟩
theorem tuple_mulNone (l : Addr) (items : Array Value) (n : Nat) (dd : Option Addr) (sl : Array (Option Value)) (x : Int) (u : Tok) (c0 : (decide (x < -(2 ^ 63)) || decide (x ≥ 2 ^ 63)) = false) (c1 : (items.isEmpty || x == 1) = false) (c2 : (decide (x ≤ 0) || items.isEmpty) = true) :
    Meets (Builtin.«tuple.__mul__» ⟨[.ref l, .int x u], []⟩) (fun _ R s => s.heap.get? l = some { cls := .type "tuple", dict := dd, data := .seq items n, slots := sl } ∧
      R (.ok (.ret (Value.ref s.heap.objs.size))) { s with heap := s.heap.push { cls := Value.type "tuple", data := Data.seq #[] }, toks := s.toks }) :=
  .of_wp fun prog w A R s h => by
    obtain ⟨hp, g, d, tk, os⟩ := s
    obtain ⟨hl, h⟩ := h
    have f1 := AutoSeq1.idx_int
    wp_walk using wpAny_loadPart' hl
    repeat (first
      | (refine wpAny_ite_false (decide_eq_false (by rw [c0]; exact Bool.false_ne_true)) ?_; wp_walk using wpAny_loadPart' hl)
      | (refine wpAny_ite_false (decide_eq_false (by rw [c1]; exact Bool.false_ne_true)) ?_; wp_walk using wpAny_loadPart' hl)
      | (refine wpAny_ite_true (decide_eq_true (by rw [c2])) ?_; wp_walk using wpAny_loadPart' hl))
    exact ⟨_, rfl, h⟩
def rRepT1 (K : PySem.W.Frag) : R2 := fun x y H Q => ∃ l k xs, x = .ref l ∧ y = .int k ∧ SqT K H l xs ∧ (xs = [] ∨ k = 1) ∧ 0 ≤ k ∧ k ≤ 1000 ∧ Q (.ref l) H
def rRepT0 (K : PySem.W.Frag) : R2 := fun x y H Q => ∃ l xs, x = .ref l ∧ y = .int 0 ∧ SqT K H l xs ∧ xs ≠ [] ∧ ∀ p, H p = none → Q (.ref p) (upd H p (.tup []))
theorem op_repT1 {X : Cx} : OpR X (binaryOp .Mult) (rRepT1 X.K) := by
  intro pins s σ H x y v u Q I rx ry h
  obtain ⟨l, k, xs, rfl, rfl, hT, hne, h1, h2, q⟩ := h
  cases rx
  obtain ⟨t, rfl⟩ := ry
  obtain ⟨its, r, ⟨⟨cls, dd, data, sl⟩, ho, hc, n, hd⟩, hs⟩ := I.tuple hT
  simp only at hc hd
  subst hc hd
  have hle : its.length = xs.length := r.length.symm
  have c0 : (decide (k < -(2 ^ 63)) || decide (k ≥ 2 ^ 63)) = false := by
    rw [decide_eq_false (by omega), decide_eq_false (by omega)] <;> rfl
  have c1 : (its.toArray.isEmpty || k == 1) = true := by
    rcases hne with rfl | rfl
    · have : its = [] := List.eq_nil_of_length_eq_zero hle
      subst this
      rfl
    · simp
  refine wpAny_binaryOp_repeat_ref (T := "tuple") (U := "int") (by decide) ⟨_, ho, rfl⟩ (fun s' => typeIs_int s' k t) noFill_tuple_mul F.fills_int_mul F.slot_int_rmul repeat_tuple F.slot_int_index.lookup
    (call_meets F.slot_int_rmul (typeIs_int s k t) F.entry_int_rmul (F.args_int_rmul_2 _ _) (int_rmul_tuple k t l its.toArray n dd sl)
      ⟨ho, rfl, ⟨_, ho, rfl⟩, call_meets F.slot_tuple_mul ⟨_, ho, rfl⟩ F.entry_tuple_mul (F.args_tuple_mul_2 _ _) (tuple_mulOne l its.toArray n dd sl k t c0 c1) ⟨ho, ?_⟩⟩)
  exact ⟨.ref l, _, I, rfl, q⟩
theorem op_repT0 {X : Cx} : OpR X (binaryOp .Mult) (rRepT0 X.K) := by
  intro pins s σ H x y v u Q I rx ry h
  obtain ⟨l, xs, rfl, rfl, hT, hne, q⟩ := h
  cases rx
  obtain ⟨t, rfl⟩ := ry
  obtain ⟨its, r, ⟨⟨cls, dd, data, sl⟩, ho, hc, n, hd⟩, hs⟩ := I.tuple hT
  simp only at hc hd
  subst hc hd
  have hle : its.length = xs.length := r.length.symm
  have hn : its ≠ [] := fun e => hne (by
    rw [e] at hle
    exact List.eq_nil_of_length_eq_zero hle.symm)
  have hi : its.toArray.isEmpty = false := by
    cases its with
    | nil => exact absurd rfl hn
    | cons a b => rfl
  have c0 : (decide ((0 : Int) < -(2 ^ 63)) || decide ((0 : Int) ≥ 2 ^ 63)) = false := by decide
  have c1 : (its.toArray.isEmpty || (0 : Int) == 1) = false := by rw [hi]; rfl
  have c2 : (decide ((0 : Int) ≤ 0) || its.toArray.isEmpty) = true := by simp
  refine wpAny_binaryOp_repeat_ref (T := "tuple") (U := "int") (by decide) ⟨_, ho, rfl⟩ (fun s' => typeIs_int s' 0 t) noFill_tuple_mul F.fills_int_mul F.slot_int_rmul repeat_tuple F.slot_int_index.lookup
    (call_meets F.slot_int_rmul (typeIs_int s 0 t) F.entry_int_rmul (F.args_int_rmul_2 _ _) (int_rmul_tuple 0 t l its.toArray n dd sl)
      ⟨ho, rfl, ⟨_, ho, rfl⟩, call_meets F.slot_tuple_mul ⟨_, ho, rfl⟩ F.entry_tuple_mul (F.args_tuple_mul_2 _ _) (tuple_mulNone l its.toArray n dd sl 0 t c0 c1 c2) ⟨ho, ?_⟩⟩)
  refine ⟨.ref s.heap.objs.size, _, I.laid (t' := s.toks) (o := .tup []) (fun b ob q => Heap.get?_push_of_some _ q) (Nat.le_refl _) ?_, rfl, q _ (I.hok.fresh (Nat.le_refl _))⟩
  exact ⟨by rw [sizeLine_eq]; simp, [], .nil, IsTup.new _ _⟩
def rMulA (K : PySem.W.Frag) : R2 := fun x y H Q => (rI CMulW (fun i j => .int (i * j)) x y H Q ∨ rI CMul (fun i j => .int (i * j)) x y H Q) ∨ (rRep x y H Q ∨ (rRepT K x y H Q ∨ (rRepT1 K x y H Q ∨ rRepT0 K x y H Q)))
theorem op_mulA : OpR X (binaryOp .Mult) (rMulA X.K) := (op_mulW.or op_mul).or (op_rep.or (op_repT.or (op_repT1.or op_repT0)))
theorem mul_ok : OpD (gOf X) (rMulA X.K) .R .R .S mulD := fun F H x y a b d Q Ha Hb s ka kb e k => by
  have ka : RdD (gOf X) F H x a := ka
  have kb : RdD (gOf X) F H y b := kb
  unfold mulD at e
  split at e
  · split at e <;> cases e
    rename_i h
    rcases h with h | h
    · exact .inl (.inl ⟨_, _, ka.int, kb.int, h, k _ F H (Grow.refl s) (.int _)⟩)
    · exact .inl (.inr ⟨_, _, ka.int, kb.int, h, k _ F H (Grow.refl s) (.int _)⟩)
  · split at e <;> cases e
    rename_i h
    obtain ⟨p, vs, rfl, h1, r1⟩ := ka.lst s
    refine .inr (.inl ⟨p, _, vs, rfl, kb.int, h1, by omega, by omega, ?_, fun t ht => k _ _ _ (Grow.mk1 s ht) (Rep.lst upd_same ((rep_all r1 _).mono (Grow.mk1 s ht).f))⟩)
    rw [sizeLine_eq, r1.length]
    exact Nat.le_trans (Nat.mul_le_mul h.2.2 (show _ ≤ 1000 by omega)) (by decide)
  · split at e <;> cases e
    rename_i h
    obtain ⟨p, vs, rfl, h1, r1⟩ := ka.tup s
    rename_i xs0 k0 _ _
    by_cases e0 : vs = []
    · subst e0
      cases r1
      refine .inr (.inr (.inr (.inl ⟨p, _, [], rfl, kb.int, h1, .inl rfl, by omega, by omega, k _ F H (Grow.refl s) ?_⟩)))
      rw [show (List.replicate (Int.toNat _) ([] : List D)).flatten = [] by simp]
      exact (RdD.tupS ka)
    · by_cases e1 : k0 = 1
      · subst e1
        refine .inr (.inr (.inr (.inl ⟨p, _, vs, rfl, kb.int, h1, .inr rfl, by omega, by omega, k _ F H (Grow.refl s) ?_⟩)))
        rw [show (List.replicate (Int.toNat 1) xs0).flatten = xs0 by simp]
        exact (RdD.tupS ka)
      · by_cases e2 : k0 = 0
        · subst e2
          refine .inr (.inr (.inr (.inr ⟨p, vs, rfl, kb.int, h1, e0, fun t ht => k _ _ _ (Grow.mk1 s ht) ?_⟩)))
          rw [show (List.replicate (Int.toNat 0) xs0).flatten = ([] : List D) by simp]
          exact Rep.tup (.of upd_same) .nil
        · refine .inr (.inr (.inl ⟨p, _, vs, rfl, kb.int, h1, e0, by omega, by omega, by rw [r1.length]; omega, fun t ht => k _ _ _ (Grow.mk1 s ht) (Rep.tup (.of upd_same) ((rep_all r1 _).mono (Grow.mk1 s ht).f))⟩))
  · cases e
def notInS (x xs : D) : Res D := match toPy x, toPy xs with
  | some p, some (.list ps) => if SeqAt.shaped p = true ∧ SeqAt.shaped (.list ps) = true then .ok (.bl (!ps.any fun z => PyData.eqv z p)) else .bad
  | _, _ => .bad
theorem notIn_ok : OpD (gOf X) (rNotInD X.K) .R .R .S notInS := fun F H x y a b d Q Ha Hb s ka kb e k => by
  unfold notInS at e
  split at e
  · rename_i p ps h1 h2
    split at e <;> cases e
    rename_i h
    exact ⟨p, ps, RdD.dp s (show RdD (gOf X) F H x a from ka) h1, RdD.dp s (show RdD (gOf X) F H y b from kb) h2, h.1, h.2, k _ F H (Grow.refl s) (.bl _)⟩
  · cases e
end
theorem ne_add : NoEr2 addD := fun a b e z => by unfold addD at z; split at z <;> (try split at z) <;> cases z
theorem ne_sub : NoEr2 subD := fun a b e z => by unfold subD at z; split at z <;> cases z
theorem ne_mul : NoEr2 mulD := fun a b e z => by unfold mulD at z; split at z <;> (try split at z) <;> cases z
theorem ne_mod : NoEr2 modD := fun a b e z => by unfold modD at z; split at z <;> (try split at z) <;> cases z
theorem ne_div : NoEr2 divD := fun a b e z => by unfold divD at z; split at z <;> (try split at z) <;> cases z
theorem ne_cmp {p : Int → Int → Bool} : NoEr2 (cmpD p) := fun a b e z => by unfold cmpD at z; split at z <;> cases z
theorem ne_eq : NoEr2 eqS := fun a b e z => by unfold eqS at z; split at z <;> (try split at z) <;> cases z
theorem ne_ne : NoEr2 neS := fun a b e z => by unfold neS at z; split at z <;> (try split at z) <;> cases z
theorem ne_isN : NoEr2 isN := fun a b e z => by unfold isN at z; split at z <;> cases z
theorem ne_notN : NoEr2 notN := fun a b e z => by unfold notN at z; split at z <;> cases z
theorem ne_notIn : NoEr2 notInS := fun a b e z => by unfold notInS at z; split at z <;> (try split at z) <;> cases z
section
variable {X : Cx} {W : Wi} {k : Nat} {a b c : Expr} {fa fb fc : Env → Res D} {pos : Pos}
theorem re_add (ha : RE X W .R a fa) (hb : RE X W .R b fb) : RE X W .S (.BinOp a .Add b pos) (fun r => fa r >>= fun x => fb r >>= fun y => addD x y) := re_op op_addA add_ok ne_add ha hb
theorem re_sub (ha : RE X W .R a fa) (hb : RE X W .R b fb) : RE X W .S (.BinOp a .Sub b pos) (fun r => fa r >>= fun x => fb r >>= fun y => subD x y) := re_op op_sub sub_ok ne_sub ha hb
theorem re_mul (ha : RE X W .R a fa) (hb : RE X W .R b fb) : RE X W .S (.BinOp a .Mult b pos) (fun r => fa r >>= fun x => fb r >>= fun y => mulD x y) := re_op op_mulA mul_ok ne_mul ha hb
theorem re_mod (ha : RE X W .R a fa) (hb : RE X W .R b fb) : RE X W .S (.BinOp a .Mod b pos) (fun r => fa r >>= fun x => fb r >>= fun y => modD x y) := re_op op_mod mod_ok ne_mod ha hb
theorem re_div (ha : RE X W .R a fa) (hb : RE X W .R b fb) : RE X W .S (.BinOp a .FloorDiv b pos) (fun r => fa r >>= fun x => fb r >>= fun y => divD x y) := re_op op_fdivW div_ok ne_div ha hb
def ltD : D → D → Res D := cmpD fun i j => decide (i < j)
def leD : D → D → Res D := cmpD fun i j => decide (i ≤ j)
def gtD : D → D → Res D := cmpD fun i j => decide (j < i)
def geD : D → D → Res D := cmpD fun i j => decide (j ≤ i)
def asB : D → Res Bool
  | .bl b => .ok b
  | _ => .bad
/-- what a comparison by its sign is worth -/
structure Cmp (X : Cx) (o : CmpOp) (op : D → D → Res D) : Prop where
  ex : ∃ rr : R2, OpR X (compareOp o) rr ∧ OpD (gOf X) rr .R .R .S op
  ne : NoEr2 op
theorem c_lt : Cmp X .Lt ltD := ⟨⟨_, op_lt, cmp_ok⟩, ne_cmp⟩
theorem c_le : Cmp X .LtE leD := ⟨⟨_, op_le, cmp_ok⟩, ne_cmp⟩
theorem c_gt : Cmp X .Gt gtD := ⟨⟨_, op_gt, cmp_ok⟩, ne_cmp⟩
theorem c_ge : Cmp X .GtE geD := ⟨⟨_, op_ge, cmp_ok⟩, ne_cmp⟩
theorem c_isN : Cmp X .Is isN := ⟨⟨_, op_isN, isN_ok⟩, ne_isN⟩
theorem c_notN : Cmp X .IsNot notN := ⟨⟨_, op_notN, notN_ok⟩, ne_notN⟩
theorem units65 (hr : Room k X.A) : X.A.units + 65 < cLine := by have := hr.un; omega
theorem re_cp {o : CmpOp} {op : D → D → Res D} (C : Cmp X o op) (ha : RE X W .R a fa) (hb : RE X W .R b fb) (hm : behindInMarks o b = false := by first | exact nomark _ | rfl) : RE X W .S (.Compare a [o] [b] pos) (fun r => fa r >>= fun x => fb r >>= fun y => op x y) :=
  let ⟨_, h1, h2⟩ := C.ex
  re_cmp h1 h2 C.ne ha hb hm
theorem asB_er {d e : D} (h : asB d = .er e) : False := by unfold asB at h; split at h <;> cases h
/-- a truth as a test -/
theorem tB_of {t : TE} {f : Env → Res D} {G : GC} (σ : L2.St) (H : Hp) (Q : Bool → Hp → Prop) (i : ∀ R : VK, tE G W .S f σ H R → t σ H R) (h : tT G W (fun r => f r >>= asB) σ H Q) : tTest t σ H Q := by
  obtain ⟨H0, F0, fp, F, r, m, o⟩ := h
  refine i _ ⟨H0, F0, fp, F, r, m, o.bind fun F' H' d gr o2 v kv => ?_⟩
  cases e : asB d with
  | ok b =>
    rw [e] at o2
    unfold asB at e
    split at e <;> cases e
    cases kv
    exact ⟨b, rfl, o2 F' H' (Grow.refl gr.sub)⟩
  | er x => exact (asB_er e).elim
  | bad => rw [e] at o2; exact o2.elim
theorem rt_cp {o : CmpOp} {op : D → D → Res D} (C : Cmp X o op) (ha : RE X W .R a fa) (hb : RE X W .R b fb) (hm : behindInMarks o b = false := by first | exact nomark _ | rfl) : RT X W (.Compare a [o] [b] pos) (fun r => (fa r >>= fun x => fb r >>= fun y => op x y) >>= asB) :=
  let ⟨_, h1, h2⟩ := C.ex
  (pt_cmpR h1 ha hb hm).imp fun σ H Q h => tB_of σ H Q (fun R t => t_op h2 C.ne σ H R t) h
/-- an expression that is True or False as a test -/
theorem rt_val (ha : RE X W .S a fa) (he : ∀ whole, isTrue a X.env whole = (do let v ← whole; standAt a.pos; holding [v] (truthy v)) := by intro _; rfl) : RT X W a (fun r => fa r >>= asB) :=
  (pt_val ha he).imp fun σ H Q h => tB_of σ H Q (fun R t => t) h
theorem rt_not {f : Env → Res Bool} (ha : RT X W a f) : RT X W (.UnaryOp .Not a pos) (fun r => f r >>= fun t => .ok (!t)) :=
  (pt_not ha).imp fun σ H Q ⟨H0, F0, fp, F, r, m, o⟩ => ⟨H0, F0, fp, F, r, m, o.bind fun F' H' t gr o2 => o2 F' H' (Grow.refl gr.sub)⟩
abbrev RW (X : Cx) (W : Wi) (e : Expr) (f : Env → Res Bool) : Prop := PW X e (tT (gOf X) W f)
theorem rt_pw {f : Env → Res Bool} (h : RW X W a f) : RT X W a f := h.pt
theorem rw_and1 {f : Env → Res Bool} (ha : RT X W a f) : RW X W (.BoolOp .And [a] pos) f := pw_and1 ha
theorem rw_or1 {f : Env → Res Bool} (ha : RT X W a f) : RW X W (.BoolOp .Or [a] pos) f := pw_or1 ha
theorem rw_and {rest : List Expr} {f g : Env → Res Bool} (ha : RT X W a f) (hb : RW X W (.BoolOp .And (b :: rest) pos) g) : RW X W (.BoolOp .And (a :: b :: rest) pos) (fun r => f r >>= fun t => if t = true then g r else .ok false) :=
  (pw_and ha hb).imp fun σ H Q ⟨H0, F0, fp, F, r, m, o⟩ => ⟨H0, F0, fp, F, r, m, o.bind fun F' H' t gr o2 => by
    cases t with
    | true => exact ⟨H0, F0, fp, F', r, m.grow gr, o2⟩
    | false => exact o2 F' H' (Grow.refl gr.sub)⟩
theorem rw_or {rest : List Expr} {f g : Env → Res Bool} (ha : RT X W a f) (hb : RW X W (.BoolOp .Or (b :: rest) pos) g) : RW X W (.BoolOp .Or (a :: b :: rest) pos) (fun r => f r >>= fun t => if t = true then .ok true else g r) :=
  (pw_or ha hb).imp fun σ H Q ⟨H0, F0, fp, F, r, m, o⟩ => ⟨H0, F0, fp, F, r, m, o.bind fun F' H' t gr o2 => by
    cases t with
    | true => exact o2 F' H' (Grow.refl gr.sub)
    | false => exact ⟨H0, F0, fp, F', r, m.grow gr, o2⟩⟩
theorem re_one {op : BoolOp} (h : RE X W .S a fa) : RE X W .S (.BoolOp op [a] pos) fa := pe_one h
theorem re_and {rest : List Expr} (ha : RE X W .S a fa) (hb : RE X W .S (.BoolOp .And (b :: rest) pos) fb) : RE X W .S (.BoolOp .And (a :: b :: rest) pos) (fun r => (fa r >>= asB) >>= fun t => if t = true then fb r else .ok (.bl false)) :=
  (pe_and ha hb).imp fun σ H Q ⟨H0, F0, fp, F, r, m, o⟩ => by
    have z := tB_of (t := tE (gOf X) W .S fa) (f := fa) σ H (fun t H1 => if t = true then tE (gOf X) W .S fb σ H1 Q else Q (.bl false) H1) (fun R t => t) ⟨H0, F0, fp, F, r, m, o.bind fun F' H' t gr o2 => by
      cases t with
      | true => rw [if_pos rfl] at o2 ⊢; exact ⟨H0, F0, fp, F', r, m.grow gr, o2.imp fun F2 H2 d g2 p v kv => p v kv⟩
      | false => exact o2 F' H' (Grow.refl gr.sub) _ (Rep.bl false)⟩
    exact z
theorem re_not (ha : RE X W .S a fa) : RE X W .S (.UnaryOp .Not a pos) (fun r => (fa r >>= asB) >>= fun t => .ok (.bl (!t))) :=
  (pe_not ha).imp fun σ H Q ⟨H0, F0, fp, F, r, m, o⟩ => by
    have z := tB_of (t := tE (gOf X) W .S fa) (f := fa) σ H (fun t H1 => Q (.bl (!t)) H1) (fun R t => t) ⟨H0, F0, fp, F, r, m, o.bind fun F' H' t gr o2 => o2 F' H' (Grow.refl gr.sub) _ (Rep.bl _)⟩
    exact z
@[simp] def negD : D → Res D
  | .int i => .ok (.int (-i))
  | _ => .bad
theorem re_neg (ha : RE X W .R a fa) : RE X W .S (.UnaryOp .USub a pos) (fun r => fa r >>= negD) :=
  (pe_un un_neg ha).imp fun σ H Q ⟨H0, F0, fp, F, r, m, o⟩ => ⟨H0, F0, fp, F, r, m, o.bind fun F' H' d gr o2 v kv => by
    cases d with
    | int i => exact ⟨i, RdD.int kv, o2 F' H' (Grow.refl gr.sub) _ (Rep.int _)⟩
    | _ => exact o2.elim⟩
end
end Mir
namespace Mir
open PySem PySem.Spec PyProof.Rows L2
variable [Tn]
def ixS : D → D → Res D
  | .lst xs, .int i => match atI xs i with
    | some d => .ok d
    | none => .bad
  | .tup xs, .int i => match atI xs i with
    | some d => .ok d
    | none => .bad
  | .scr ns, .int i => match atI ns i with
    | some n => .ok (.int n)
    | none => .bad
  | .str z, .int i => if z.length ≤ lim then (match atI z.cps.toList i with
    | some c => .ok (.str ⟨#[c]⟩)
    | none => .bad) else .bad
  | _, _ => .bad
theorem atI_rep {G : GC} {F : Hp} {vs : List V} {ds : List D} {i : Int} {d : D} (r : RepAll G F vs ds) (h : atI ds i = some d) : ∃ v, atI vs i = some v ∧ Rep G F v d := by
  unfold atI at h ⊢
  rw [r.length]
  cases e : ixN ds.length i with
  | none => rw [e] at h; cases h
  | some j =>
    rw [e] at h
    exact r.get h
theorem atI_map {ns : List Int} {i n : Int} (h : atI ns i = some n) : atI (ns.map V.int) i = some (.int n) := by
  unfold atI at h ⊢
  rw [List.length_map]
  cases e : ixN ns.length i with
  | none => rw [e] at h; cases h
  | some j =>
    rw [e] at h
    show (ns.map V.int)[j]? = _
    rw [List.getElem?_map, show ns[j]? = some n from h]
    rfl
section
variable {X : Cx} {W : Wi} {k : Nat} {a b c e : Expr} {es : List Expr} {fa fb fc fe : Env → Res D} {p pos apos cpos : Pos}
theorem ix_ok : OpD (gOf X) (rIx X.K) .R .R .S ixS := fun F H x y a b d Q Ha Hb s ka kb e k => by
  have ka : RdD (gOf X) F H x a := ka
  have kb : RdD (gOf X) F H y b := kb
  unfold ixS at e
  split at e
  · split at e <;> cases e
    rename_i h
    obtain ⟨q, vs, rfl, h1, r1⟩ := ka.lst s
    obtain ⟨v, hv, rv⟩ := atI_rep r1 h
    exact .inl ⟨q, vs, _, v, rfl, kb.int, .of h1, hv, k _ F H (Grow.refl s) rv⟩
  · split at e <;> cases e
    rename_i h
    obtain ⟨q, vs, rfl, h1, r1⟩ := ka.tup s
    obtain ⟨v, hv, rv⟩ := atI_rep r1 h
    exact .inr (.inl ⟨q, vs, _, v, rfl, kb.int, h1, hv, k _ F H (Grow.refl s) rv⟩)
  · split at e <;> cases e
    rename_i h
    obtain ⟨q, rfl, h1⟩ := ka.scr s
    exact .inl ⟨q, _, _, _, rfl, kb.int, h1, atI_map h, k _ F H (Grow.refl s) (.int _)⟩
  · split at e
    · rename_i hl
      split at e <;> cases e
      rename_i h
      exact .inr (.inr ⟨_, _, _, ka.str, kb.int, Nat.le_trans hl lim_le, h, k _ F H (Grow.refl s) (.str _)⟩)
    · cases e
  · cases e
theorem ne_ix : NoEr2 ixS := fun a b e z => by
  unfold ixS at z
  split at z
  · split at z <;> cases z
  · split at z <;> cases z
  · split at z <;> cases z
  · split at z
    · split at z <;> cases z
    · cases z
  · cases z
def cutD (xs : List D) (lo hi : Option Int) : List D := (xs.drop (HT.sIx xs.length 0 lo)).take (HT.sIx xs.length xs.length hi - HT.sIx xs.length 0 lo)
@[simp] def asI : D → Res Int
  | .int i => .ok i
  | _ => .bad
def sliceD (d : D) (lo hi : Option Int) : Res D := match d with
  | .lst xs => .ok (.lst (cutD xs lo hi))
  | .tup xs => .ok (.tup (cutD xs lo hi))
  | .str z => if z.length ≤ lim then .ok (.str (cutS z lo hi)) else .bad
  | _ => .bad
theorem RepAll.cut {G : GC} {F : Hp} {vs : List V} {ds : List D} (r : RepAll G F vs ds) (lo hi : Option Int) : RepAll G F (cutV vs lo hi) (cutD ds lo hi) := by
  unfold cutV cutD
  rw [r.length]
  exact (r.drop _).take _
/-- a part of a slice -/
def tP (G : GC) (W : Wi) (f : Env → Res (Option Int)) : TO := fun σ H Q => ∃ H0 F0 fp F r, MS G W.J H0 F0 fp F σ H r ∧ Out G W σ F H (fun F' H' o => Q o H') (f r)
abbrev RP (X : Cx) (W : Wi) (e : Option Expr) (f : Env → Res (Option Int)) : Prop := PO X e (tP (gOf X) W f)
theorem PO.imp {X : Cx} {e : Option Expr} {t t' : TO} (h : PO X e t) (i : ∀ σ H Q, t' σ H Q → t σ H Q) : PO X e t' := ⟨fun pins s σ H Q I hw => h.run pins s σ H Q I (i σ H Q hw)⟩
theorem rp_none : RP X W none (fun _ => .ok none) := PO.imp po_none fun σ H Q ⟨H0, F0, fp, F, r, m, o⟩ => o F H (Grow.refl m.sub)
theorem rp_some (he : RE X W .R e fe) : RP X W (some e) (fun r => fe r >>= fun d => asI d >>= fun i => .ok (some i)) := PO.imp (po_some he) fun σ H Q ⟨H0, F0, fp, F, r, m, o⟩ => ⟨H0, F0, fp, F, r, m, o.bind fun F' H' d gr o2 v kv => by
  cases d with
  | int i => exact ⟨i, RdD.int kv, o2 F' H' (Grow.refl gr.sub)⟩
  | _ => exact o2.elim⟩
def rSlAll (K : PySem.W.Frag) : V → Option Int → Option Int → Hp → VK → Prop := fun x lo hi H Q => rSlL K x lo hi H Q ∨ (rSlA K x lo hi H Q ∨ ∃ z, x = .str z ∧ z.length ≤ sizeLine ∧ Q (.str (cutS z lo hi)) H)
theorem t_slice {f1 f2 : Env → Res (Option Int)} {Kk : Kd} {op : D → Option Int → Option Int → Res D} (ne : ∀ d lo hi e, op d lo hi ≠ .er e) {rr : V → Option Int → Option Int → Hp → VK → Prop}
    (ok : ∀ F H x a lo hi d (Q : VK), Same F H → RdD (gOf X) F H x a → op a lo hi = .ok d → (∀ v F' H', Grow F H F' H' → Kk.Rep (gOf X) H F' H' v d → Q v H') → rr x lo hi H Q)
    (σ : L2.St) (H : Hp) (Q : VK) (t : tE (gOf X) W Kk (fun r => fa r >>= fun d => f1 r >>= fun lo => f2 r >>= fun hi => op d lo hi) σ H Q) : tSl rr (tE (gOf X) W .R fa) (tP (gOf X) W f1) (tP (gOf X) W f2) σ H Q := by
  obtain ⟨H0, F0, fp, F, r, m, o⟩ := t
  refine ⟨H0, F0, fp, F, r, m, o.bind fun F1 H1 d g1 o1 v kv => ⟨H0, F0, fp, F1, r, m.grow g1, o1.bind fun F2 H2 lo g2 o2 => ⟨H0, F0, fp, F2, r, (m.grow g1).grow g2, o2.bind fun F3 H3 hi g3 o3 => ?_⟩⟩⟩
  cases e : op d lo hi with
  | ok d' =>
    rw [e] at o3
    exact ok F3 H3 v d lo hi d' Q g3.sub (RdD.grow (show RdD (gOf X) F1 H1 v d from kv) (g2.trans g3)) e fun v' F' H' g q => o3 F' H' g v' (q.later (g1.h.trans (g2.h.trans g3.h)).fre)
  | er x => exact (ne _ _ _ _ e).elim
  | bad => rw [e] at o3; exact o3.elim
theorem re_slice {f1 f2 : Env → Res (Option Int)} {lo hi : Option Expr} {p2 : Pos} (ha : RE X W .R a fa) (hl : RP X W lo f1) (hh : RP X W hi f2) : RE X W .S (.Subscript a (.Slice lo hi none p2) pos) (fun r => fa r >>= fun d => f1 r >>= fun lo => f2 r >>= fun hi => sliceD d lo hi) :=
  (pe_slice (r := rSlAll X.K) (sl_list.or (sl_tupA.or sl_str)) ha hl hh).imp (t_slice (fun d lo hi e z => by unfold sliceD at z; split at z <;> (try split at z) <;> cases z) fun F H x a lo hi d Q s ka e k => by
    unfold sliceD at e
    split at e
    · cases e
      obtain ⟨q, vs, rfl, h1, r1⟩ := ka.lst s
      exact .inl ⟨q, vs, rfl, .of h1, fun t ht => k _ _ _ (Grow.mk1 s ht) (Rep.lst upd_same ((r1.cut lo hi).mono (Grow.mk1 s ht).f))⟩
    · cases e
      obtain ⟨q, vs, rfl, h1, r1⟩ := ka.tup s
      refine .inr (.inl ⟨q, vs, rfl, h1, fun w => ?_, fun _ t ht => k _ _ _ (Grow.mk1 s ht) (Rep.tup (.of upd_same) ((r1.cut lo hi).mono (Grow.mk1 s ht).f))⟩)
      rename_i ds
      have e : cutD ds lo hi = ds := by
        unfold cutD
        rw [r1.length] at w
        rw [w.1, w.2]
        simp
      rw [e] at k
      exact k _ F H (Grow.refl s) ka.tupS
    · split at e <;> cases e
      rename_i h
      exact .inr (.inr ⟨_, ka.str, Nat.le_trans h lim_le, k _ F H (Grow.refl s) (.str _)⟩)
    · cases e)
theorem re_tup {x1} {f : Env → Res (List D)} (ha : RA X W es f) : RE X W .S (.Tuple es x1 pos) (fun r => f r >>= fun ds => if ds.length ≤ lim then .ok (.tup ds) else .bad) :=
  (pe_tup ha).imp fun σ H Q ⟨H0, F0, fp, F, r, m, o⟩ => ⟨H0, F0, fp, F, r, m, o.bind fun F' H' ds gr o2 vs rv => by
    split at o2
    · rename_i h
      exact ⟨Nat.le_trans (by rw [rv.length]; exact h) lim_le, fun t ht => o2 _ _ (Grow.mk1 gr.sub ht) _ (Rep.tup (.of upd_same) (rv.mono (Grow.mk1 gr.sub ht).f))⟩
    · exact o2.elim⟩
theorem re_lst {f : Env → Res (List D)} (ha : RA X W es f) : RE X W (.O .flat) (.List es pos) (fun r => f r >>= fun ds => if ds.length ≤ lim then .ok (.lst ds) else .bad) :=
  (pe_lst ha).imp fun σ H Q ⟨H0, F0, fp, F, r, m, o⟩ => ⟨H0, F0, fp, F, r, m, o.bind fun F' H' ds gr o2 vs rv => by
    split at o2
    · rename_i h
      exact ⟨Nat.le_trans (by rw [rv.length]; exact h) lim_le, fun t ht => o2 _ _ (Grow.own gr.sub ht) _ ⟨[t], Own.lst rfl upd_same (gr.sub.free ht) (OwnAll.of_rep rv) (by simp), fun a ha => by rw [List.mem_singleton.mp ha]; exact gr.h.free ht⟩⟩
    · exact o2.elim⟩
end
end Mir
namespace Mir
open PySem PySem.Spec PyProof.Rows L2
variable [Tn]
inductive RdAll (G : GC) (F H : Hp) : List V → List D → Prop
  | nil : RdAll G F H [] []
  | cons {v : V} {d : D} {vs : List V} {ds : List D} : RdD G F H v d → RdAll G F H vs ds → RdAll G F H (v :: vs) (d :: ds)
def tAR (G : GC) (W : Wi) (f : Env → Res (List D)) : TA := fun σ H Q => ∃ H0 F0 fp F r, MS G W.J H0 F0 fp F σ H r ∧ Out G W σ F H (fun F' H' ds => ∀ vs, RdAll G F' H' vs ds → Q vs H') (f r)
/-- arguments to be read -/
abbrev RAR (X : Cx) (W : Wi) (es : List Expr) (f : Env → Res (List D)) : Prop := PA X es (tAR (gOf X) W f)
def CalD (G : GC) (rr : List V → Hp → VK → Prop) (k : Kd) (op : List D → Res D) : Prop := ∀ (F H : Hp) (vs : List V) (ds : List D) (d : D) (Q : VK), Same F H → RdAll G F H vs ds → op ds = .ok d → (∀ v F' H', Grow F H F' H' → k.Rep G H F' H' v d → Q v H') → rr vs H Q
def NoErL (op : List D → Res D) : Prop := ∀ ds e, op ds ≠ .er e
/-- a built-in by its name -/
structure BlM (X : Cx) (x : Str) (k : Kd) (op : List D → Res D) : Prop where
  mg : X.mg x = none
  ex : ∃ rr : List V → Hp → VK → Prop, CalD (gOf X) rr k op ∧ ((∃ id, bootBuiltins x = some (.builtin id) ∧ CallR X (.builtin id) rr) ∨ ∃ T, bootBuiltins x = some (.type T) ∧ CallR X (.type T) rr)
  ne : NoErL op
  n1 : x ≠ "__name__"
  n2 : (x == ("__debug__" : Str)) = false
section
variable {X : Cx} {W : Wi} {k : Kd} {e : Expr} {es : List Expr} {fe : Env → Res D} {p pos : Pos}
theorem rar_nil : RAR X W [] (fun _ => .ok []) := pa_nil.imp fun σ H Q ⟨H0, F0, fp, F, r, m, o⟩ => o F H (Grow.refl m.sub) [] .nil
theorem RdAll.grow {G : GC} {F H F' H' : Hp} (g : Grow F H F' H') : ∀ {vs : List V} {ds : List D}, RdAll G F H vs ds → RdAll G F' H' vs ds
  | _, _, .nil => .nil
  | _, _, .cons r t => .cons (r.grow g) (RdAll.grow g t)
theorem rar_cons {g : Env → Res (List D)} (he : RE X W .R e fe) (hr : RAR X W es g) (hs : starEach (e :: es) X.env = (false, eval e X.env) :: starEach es X.env := by rfl) :
    RAR X W (e :: es) (fun r => fe r >>= fun d => g r >>= fun ds => .ok (d :: ds)) :=
  (pa_cons he hr hs).imp fun σ H Q ⟨H0, F0, fp, F, r, m, o⟩ => ⟨H0, F0, fp, F, r, m, o.bind fun F1 H1 d g1 o1 v kv =>
    ⟨H0, F0, fp, F1, r, m.grow g1, o1.bind fun F2 H2 ds g2 o2 vs rv => o2 F2 H2 (Grow.refl g2.sub) (v :: vs) (.cons (RdD.grow kv g2) rv)⟩⟩
theorem t_bl {rr : List V → Hp → VK → Prop} {op : List D → Res D} (h : CalD (gOf X) rr k op) (ne : NoErL op) {fa : Env → Res (List D)} (σ : L2.St) (H : Hp) (Q : VK) (t : tE (gOf X) W k (fun r => fa r >>= op) σ H Q) : tCB rr (tAR (gOf X) W fa) σ H Q := by
  obtain ⟨H0, F0, fp, F, r, m, o⟩ := t
  refine ⟨H0, F0, fp, F, r, m, o.bind fun F' H' ds gr o2 vs rv => ?_⟩
  cases z : op ds with
  | ok d =>
    rw [z] at o2
    exact h F' H' vs ds d Q gr.sub rv z fun v F2 H2 g kv => o2 F2 H2 g v (kv.later gr.h.fre)
  | er x => exact (ne _ _ z).elim
  | bad => rw [z] at o2; exact o2.elim
theorem re_blt {x : Str} {op : List D → Res D} {fa : Env → Res (List D)} (B : BlM X x k op) (ha : RAR X W (e :: es) fa) (hg : Gl X x := by rfl) (he : starEach (e :: es) X.env = (false, eval e X.env) :: starEach es X.env := by rfl) (hpl : (backTo pos (starEach es X.env)).any (·.1) = false := by rfl) :
    RE X W k (.Call (.Name x p) (e :: es) [] pos) (fun r => fa r >>= op) := by
  obtain ⟨rr, hc, ⟨id, hv, hr⟩ | ⟨T, hv, hr⟩⟩ := B.ex
  · exact (pe_callB hr hg B.mg hv ha B.n1 B.n2 he hpl).imp (t_bl hc B.ne)
  · exact (pe_callTy hr hg B.mg hv ha B.n1 B.n2 he hpl).imp (t_bl hc B.ne)
theorem BlM.b {x : Str} {id : String} {rr : List V → Hp → VK → Prop} {op : List D → Res D} (hm : X.mg x = none) (hv : bootBuiltins x = some (.builtin id)) (hr : CallR X (.builtin id) rr) (ne : NoErL op) (c : CalD (gOf X) rr k op) (n1 : x ≠ "__name__" := by decide) (n2 : (x == ("__debug__" : Str)) = false := by decide) : BlM X x k op :=
  ⟨hm, ⟨rr, c, .inl ⟨id, hv, hr⟩⟩, ne, n1, n2⟩
theorem BlM.t {x : Str} {T : String} {rr : List V → Hp → VK → Prop} {op : List D → Res D} (hm : X.mg x = none) (hv : bootBuiltins x = some (.type T)) (hr : CallR X (.type T) rr) (ne : NoErL op) (c : CalD (gOf X) rr k op) (n1 : x ≠ "__name__" := by decide) (n2 : (x == ("__debug__" : Str)) = false := by decide) : BlM X x k op :=
  ⟨hm, ⟨rr, c, .inr ⟨T, hv, hr⟩⟩, ne, n1, n2⟩
@[simp] def one (f : D → Res D) : List D → Res D
  | [d] => f d
  | _ => .bad
@[simp] def two (f : D → D → Res D) : List D → Res D
  | [d, e] => f d e
  | _ => .bad
def noEr1 (f : D → Res D) : Prop := ∀ d e, f d ≠ .er e
theorem ne_one {f : D → Res D} (h : noEr1 f) : NoErL (one f) := fun ds e z => by
  unfold one at z
  split at z
  · exact h _ _ z
  · cases z
theorem ne_two {f : D → D → Res D} (h : NoEr2 f) : NoErL (two f) := fun ds e z => by
  unfold two at z
  split at z
  · exact h _ _ _ z
  · cases z
theorem cal_one {G : GC} {rr : List V → Hp → VK → Prop} {f : D → Res D} (h : ∀ (F H : Hp) (x : V) (a d : D) (Q : VK), Same F H → RdD G F H x a → f a = .ok d → (∀ v F' H', Grow F H F' H' → k.Rep G H F' H' v d → Q v H') → rr [x] H Q) : CalD G rr k (one f) := fun F H vs ds d Q s r e q => by
  unfold one at e
  split at e
  · cases r with
    | cons r1 rn =>
      cases rn
      exact h F H _ _ d Q s r1 e q
  · cases e
theorem cal_two {G : GC} {rr : List V → Hp → VK → Prop} {f : D → D → Res D} (h : ∀ (F H : Hp) (x y : V) (a b d : D) (Q : VK), Same F H → RdD G F H x a → RdD G F H y b → f a b = .ok d → (∀ v F' H', Grow F H F' H' → k.Rep G H F' H' v d → Q v H') → rr [x, y] H Q) : CalD G rr k (two f) := fun F H vs ds d Q s r e q => by
  unfold two at e
  split at e
  · cases r with
    | cons r1 rn =>
      cases rn with
      | cons r2 rn =>
        cases rn
        exact h F H _ _ _ _ d Q s r1 r2 e q
  · cases e
@[simp] def tupleD : D → Res D
  | .lst xs => .ok (.tup xs)
  | .tup xs => .ok (.tup xs)
  | _ => .bad
@[simp] def listD : D → Res D
  | .lst xs => .ok (.lst xs)
  | .tup xs => .ok (.lst xs)
  | _ => .bad
theorem b_tuple (hm : X.mg "tuple" = none) : BlM X "tuple" .S (one tupleD) := BlM.t hm boot_tuple (call_tuple_of) (ne_one fun d e z => by unfold tupleD at z; split at z <;> cases z) (cal_one fun F H x a d Q s ra e q => by
  unfold tupleD at e
  split at e <;> cases e
  · obtain ⟨p, vs, rfl, h1, r1⟩ := ra.lst s
    exact ⟨p, vs, rfl, .inl ⟨.of h1, fun t ht => q _ _ _ (Grow.mk1 s ht) (Rep.tup (.of upd_same) (r1.mono (Grow.mk1 s ht).f))⟩⟩
  · obtain ⟨p, vs, rfl, h1, r1⟩ := ra.tup s
    exact ⟨p, vs, rfl, .inr ⟨h1, q _ F H (Grow.refl s) ra.tupS⟩⟩)
theorem b_list (hm : X.mg "list" = none) : BlM X "list" (.O .flat) (one listD) := BlM.t hm boot_list (call_list_of) (ne_one fun d e z => by unfold listD at z; split at z <;> cases z) (cal_one fun F H x a d Q s ra e q => by
  unfold listD at e
  split at e <;> cases e
  · obtain ⟨p, vs, rfl, h1, r1⟩ := ra.lst s
    exact ⟨p, vs, rfl, .inl (.of h1), fun t ht => q _ _ _ (Grow.own s ht) ⟨[t], Own.lst rfl upd_same (s.free ht) (OwnAll.of_rep r1) (by simp), fun a ha => by rw [List.mem_singleton.mp ha]; exact ht⟩⟩
  · obtain ⟨p, vs, rfl, h1, r1⟩ := ra.tup s
    exact ⟨p, vs, rfl, .inr h1, fun t ht => q _ _ _ (Grow.own s ht) ⟨[t], Own.lst rfl upd_same (s.free ht) (OwnAll.of_rep r1) (by simp), fun a ha => by rw [List.mem_singleton.mp ha]; exact ht⟩⟩)
def intD : D → Res D
  | .int i => .ok (.int i)
  | .bl b => .ok (.int (if b = true then 1 else 0))
  | .str s => match PySem.intText? s with
    | some n => if s.length ≤ 640 then .ok (.int n) else .bad
    | none => .bad
  | _ => .bad
theorem ne_int : noEr1 intD := fun d e z => by
  unfold intD at z
  split at z
  · cases z
  · cases z
  · split at z
    · split at z <;> cases z
    · cases z
  · cases z
theorem b_int (hm : X.mg "int" = none) : BlM X "int" .S (one intD) := BlM.t hm boot_int (call_int1.or call_int_str) (ne_one ne_int) (cal_one fun F H x a d Q s ra e q => by
  unfold intD at e
  split at e
  · cases e
    exact .inl (.inl ⟨_, by rw [ra.int], q _ F H (Grow.refl s) (Rep.int _)⟩)
  · cases e
    exact .inl (.inr ⟨_, by rw [ra.bl], q _ F H (Grow.refl s) (Rep.int _)⟩)
  · split at e
    · rename_i n hn
      split at e <;> cases e
      rename_i hl
      exact .inr ⟨_, n, by rw [ra.str], hn, hl, q _ F H (Grow.refl s) (Rep.int _)⟩
    · cases e
  · cases e)
def minD : D → D → Res D
  | .int i, .int j => .ok (.int (if j < i then j else i))
  | _, _ => .bad
theorem b_min (hc : X.calm = true) (hm : X.mg "min" = none) : BlM X "min" .S (two minD) := BlM.b hm boot_min (call_min2 hc) (ne_two (fun a b e z => by unfold minD at z; split at z <;> cases z)) (cal_two fun F H x y a b d Q s ra rb e q => by
  unfold minD at e
  split at e <;> cases e
  exact ⟨_, _, by rw [ra.int, rb.int], q _ F H (Grow.refl s) (Rep.int _)⟩)
def asInts : List D → Option (List Int)
  | [] => some []
  | .int i :: ds => (asInts ds).map (i :: ·)
  | _ :: _ => none
theorem asInts_rep {G : GC} {F : Hp} : ∀ {vs : List V} {ds : List D} {ns : List Int}, RepAll G F vs ds → asInts ds = some ns → vs = ns.map V.int
  | _, _, _, .nil, e => by cases e; rfl
  | _, _, _, .cons (d := d) r t, e => by
    cases d with
    | int i =>
      rw [asInts, Option.map_eq_some_iff] at e
      obtain ⟨ms, e1, e2⟩ := e
      subst e2
      cases r
      rw [asInts_rep t e1]
      rfl
    | _ => cases e
def sumD : D → Res D
  | .scr ns => .ok (.int ns.sum)
  | .lst ds => match asInts ds with
    | some ns => .ok (.int ns.sum)
    | none => .bad
  | _ => .bad
theorem boot_sum' : bootBuiltins "sum" = some (.builtin "sum") := by decide +kernel
theorem boot_all' : bootBuiltins "all" = some (.builtin "all") := by decide +kernel
theorem b_sum (hc : X.calm = true) (hm : X.mg "sum" = none) : BlM X "sum" .S (one sumD) := BlM.b hm boot_sum' (cr_sum hc) (ne_one (fun d e z => by unfold sumD at z; split at z <;> (try split at z) <;> cases z)) (cal_one fun F H x a d Q s ra e q => by
  unfold sumD at e
  split at e
  · cases e
    obtain ⟨p, rfl, h1⟩ := ra.scr s
    exact ⟨p, _, rfl, h1, q _ F H (Grow.refl s) (Rep.int _)⟩
  · split at e <;> cases e
    rename_i ns h
    obtain ⟨p, vs, rfl, h1, r1⟩ := ra.lst s
    exact ⟨p, ns, rfl, by rw [← asInts_rep r1 h]; exact .of h1, q _ F H (Grow.refl s) (Rep.int _)⟩
  · cases e)
end
end Mir
namespace Mir
open PySem PySem.Spec PyProof.Rows L2
variable [Tn]
section
variable {G : GC} {J : L2.St → Prop} {H0 F0 F H : Hp} {fp : Nat → List Addr} {σ : L2.St} {r : Env}
theorem MS.lst (m : MS G J H0 F0 fp F σ H r) {i : Nat} {ds : List D} (h : r[i]? = some (.ow .flat (.lst ds))) : ∃ a vs, σ[i]? = some (some (.ref a)) ∧ H a = some (.lst vs) ∧ RepAll G F vs ds ∧ fp i = [a] := by
  obtain ⟨⟨v, h1, h2⟩, _⟩ := m.ow i _ _ h
  generalize fp i = A at h2
  cases h2 with
  | lst _ e _ ra na =>
    obtain ⟨rfl, rr⟩ := ra.to_rep
    exact ⟨_, _, h1, e, rr, rfl⟩
/-- an owned list is changed -/
theorem MS.lstUpd (m : MS G J H0 F0 fp F σ H r) {i : Nat} {ds ds' : List D} {a : Addr} {vs' : List V} (h : r[i]? = some (.ow .flat (.lst ds))) (hv : σ[i]? = some (some (.ref a))) (hf : fp i = [a]) (rr : RepAll G F vs' ds') :
    ∃ fp', MS G J H0 F0 fp' F σ (upd H a (.lst vs')) (r.set i (.ow .flat (.lst ds'))) := by
  obtain ⟨⟨v, h1, h2⟩, _⟩ := m.ow i _ _ h
  have fa := (h2.there a (by rw [hf]; simp)).1
  exact m.write (A := [a]) h hv (by rw [hf]; simp) (Own.lst rfl upd_same fa (OwnAll.of_rep rr) (by simp)) fun b hb => .inl (by rw [hf]; exact hb)
end
/-- the list that the i-th name owns -/
def ownL (i : Nat) (r : Env) : Option (List D) := match r[i]? with
  | some (.ow .flat (.lst ds)) => some ds
  | _ => none
theorem ownL_some {i : Nat} {r : Env} {ds : List D} (h : ownL i r = some ds) : r[i]? = some (.ow .flat (.lst ds)) := by
  unfold ownL at h
  split at h
  · rename_i e; cases h; exact e
  · cases h
def appG (i : Nat) (f : Env → Res D) (r : Env) : Oc := match ownL i r with
  | some ds => lift (f r) r fun d => if ds.length < lim then .nx (r.set i (.ow .flat (.lst (ds ++ [d])))) else .bad
  | none => .bad
def extG (i : Nat) (f : Env → Res D) (r : Env) : Oc := match ownL i r with
  | some ds => lift (f r) r fun d => match d with
    | .lst es => if ds.length + es.length ≤ lim then .nx (r.set i (.ow .flat (.lst (ds ++ es)))) else .bad
    | _ => .bad
  | none => .bad
section
variable {X : Cx} {W : Wi} {k : Kd} {e : Expr} {fe : Env → Res D} {pos apos cpos ps : Pos} {x : Str}
theorem rs_append (i : Nat) (he : RE X W .S e fe) (hN : X.N[i]? = some x := by rfl) (hv : Vis X.env.scope x := by first | exact Or.inl rfl | exact Or.inr (Or.inl rfl) | exact Or.inr (Or.inr rfl)) (hd : (x == ("__debug__" : Str)) = false := by decide)
    (hcd : (x == ("__classdict__" : Str)) = false := by decide) (hs : swapsWith (.Call (.Attribute (.Name x ps) "append" apos) [e] [] cpos) none pos.line X.env = pure false := by rfl)
    (hbase : attributeBase (.Name x ps) "append" X.env (eval (.Name x ps) X.env) = eval (.Name x ps) X.env := by rfl)
    (hfew : ((backTo cpos (starEach [e] X.env)).all (fun x => !x.1) && (backToKw cpos (keywordEach [] X.env)).all (fun x => x.1.isSome) && decide ([e].length + ([] : List Keyword).length + (if ([] : List Keyword).isEmpty then 0 else 1) < 30)) = true := by rfl)
    (hline : (apos.endLine == cpos.line) = true := by rfl) (hse : starEach [e] X.env = (false, eval e X.env) :: starEach [] X.env := by rfl) :
    RS X W k (.Expr (.Call (.Attribute (.Name x ps) "append" apos) [e] [] cpos) pos) (appG i fe) :=
  (ps_expr (pe_bm PySem.F.plainAttrs_list PySem.F.slot_list_append PySem.F.type_list_append mt_append (pe_var hN hv hd hcd) (pa_cons he pa_nil hse) hbase hfew hline hse (by rfl)) hs).imp fun D σ H ⟨H0, F0, fp, F, r, m, o⟩ => by
    unfold appG at o
    split at o
    · rename_i ds ho
      have hi := ownL_some ho
      obtain ⟨a, vs, h1, h2, h3, h4⟩ := m.lst hi
      refine ⟨.ref a, h1, Or.inl ⟨rfl, _, .of h2⟩, H0, F0, fp, F, r, m, o.lift m fun F' H' d gr o' v kv => ?_⟩
      split at o'
      · rename_i hl
        obtain ⟨fp', m'⟩ := (m.grow gr).lstUpd hi h1 h4 ((h3.mono gr.f).append (.cons kv .nil))
        exact ⟨a, vs, v, rfl, rfl, gr.h.at _ _ h2, Nat.lt_of_lt_of_le (by rw [h3.length]; exact hl) lim_le, o' fp' F' σ _ (Same.refl _) m'⟩
      · exact o'.elim
    · exact o.elim
theorem rs_extend (i : Nat) (he : RE X W .S e fe) (hN : X.N[i]? = some x := by rfl) (hv : Vis X.env.scope x := by first | exact Or.inl rfl | exact Or.inr (Or.inl rfl) | exact Or.inr (Or.inr rfl)) (hd : (x == ("__debug__" : Str)) = false := by decide)
    (hcd : (x == ("__classdict__" : Str)) = false := by decide) (hs : swapsWith (.Call (.Attribute (.Name x ps) "extend" apos) [e] [] cpos) none pos.line X.env = pure false := by rfl)
    (hbase : attributeBase (.Name x ps) "extend" X.env (eval (.Name x ps) X.env) = eval (.Name x ps) X.env := by rfl)
    (hfew : ((backTo cpos (starEach [e] X.env)).all (fun x => !x.1) && (backToKw cpos (keywordEach [] X.env)).all (fun x => x.1.isSome) && decide ([e].length + ([] : List Keyword).length + (if ([] : List Keyword).isEmpty then 0 else 1) < 30)) = true := by rfl)
    (hline : (apos.endLine == cpos.line) = true := by rfl) (hse : starEach [e] X.env = (false, eval e X.env) :: starEach [] X.env := by rfl) :
    RS X W k (.Expr (.Call (.Attribute (.Name x ps) "extend" apos) [e] [] cpos) pos) (extG i fe) :=
  (ps_expr (pe_bm PySem.F.plainAttrs_list PySem.F.slot_list_extend PySem.F.type_list_extend mt_extend (pe_var hN hv hd hcd) (pa_cons he pa_nil hse) hbase hfew hline hse (by rfl)) hs).imp fun D σ H ⟨H0, F0, fp, F, r, m, o⟩ => by
    unfold extG at o
    split at o
    · rename_i ds ho
      have hi := ownL_some ho
      obtain ⟨a, vs, h1, h2, h3, h4⟩ := m.lst hi
      refine ⟨.ref a, h1, Or.inl ⟨rfl, _, .of h2⟩, H0, F0, fp, F, r, m, o.lift m fun F' H' d gr o' v kv => ?_⟩
      split at o'
      · rename_i es
        split at o'
        · rename_i hl
          have kv' : Rep (gOf X) F' v (.lst es) := kv
          cases kv' with
          | @lst b ws _ hb rb =>
            obtain ⟨fp', m'⟩ := (m.grow gr).lstUpd hi h1 h4 ((h3.mono gr.f).append rb)
            exact ⟨a, b, vs, ws, rfl, rfl, gr.h.at _ _ h2, gr.sub _ _ hb, Nat.le_trans (by rw [h3.length, rb.length]; exact hl) lim_le, o' fp' F' σ _ (Same.refl _) m'⟩
        · exact o'.elim
      · exact o'.elim
    · exact o.elim
theorem re_gInt {i : Int} {t : Tok} (hm : X.mg x = some (.int i t)) (hg : Gl X x := by rfl) (hd : (x == ("__debug__" : Str)) = false := by decide) : RE X W .S (.Name x pos) (fun _ => .ok (.int i)) := re_cst (pe_glob (v := .int i) hg hm ⟨t, rfl⟩ hd) fun _ => .int i
/-- a class of one's own -/
theorem re_cls {c : Nat} {C : Addr} (hm : X.mg x = some (.ref C)) (hx : x = cname c := by rfl) (hg : Gl X x := by rfl) (hd : (x == ("__debug__" : Str)) = false := by decide) : RE X W .S (.Name x pos) (fun _ => .ok (.cls c)) := by
  subst hx
  exact re_cst (pe_glob (v := .ref C) hg hm rfl hd) fun _ => .cls hm
/-- a built-in type as a value -/
theorem re_ty {T : String} (hm : X.mg x = none) (hv : bootBuiltins x = some (.type T)) (hg : Gl X x := by rfl) (hn : x ≠ "__name__" := by decide) (hd : (x == ("__debug__" : Str)) = false := by decide) : RE X W .S (.Name x pos) (fun _ => .ok (.ty T)) :=
  re_cst (pe_bltn (v := .ty T) hg hm hv rfl hn hd) fun _ => .ty T
end
end Mir
namespace Mir
open PySem PySem.Spec PyProof.Rows L2
variable [Tn]
theorem WalkD.of_walk {G : GC} {F B : Hp} {J : It} {ds : List D} {n : Nat} {g : Hp → Prop} {Y : Nat → Hp → V → Hp → Prop} (w : Walk J n g Y) (hn : n = ds.length) (hg : ∀ H, Same B H → g H)
    (hy : ∀ (i : Nat) F2 H2 x H3, i < ds.length → Same F F2 → Same F2 H2 → Same B H2 → Y i H2 x H3 → ∃ F3 d, Grow F2 H2 F3 H3 ∧ ds[i]? = some d ∧ Rep G F3 x d) : WalkD G F B J ds := by
  subst hn
  exact ⟨fun i H hi s => w.goes i H hi (hg H s), fun H s => w.stops H (hg H s), fun i F2 H2 x H3 hi s1 s2 s3 y => hy i F2 H2 x H3 hi s1 s2 s3 (w.yields i H2 x H3 hi (hg H2 s3) y)⟩
theorem WalkD.list {G : GC} {F B : Hp} {a : Addr} {vs : List V} {ds : List D} (h : B a = some (.lst vs)) (r : RepAll G F vs ds) : WalkD G F B (Itl G.K a) ds :=
  .of_walk walk_list r.length (fun H s => .of (s _ _ h)) fun i F2 H2 x H3 hi s1 s2 _ ⟨e1, e2⟩ => by
    subst e1
    obtain ⟨d, h1, h2⟩ := r.getV e2
    exact ⟨F2, d, Grow.refl s2, h1, h2.mono s1⟩
theorem WalkD.tup {G : GC} {F B : Hp} {a : Addr} {vs : List V} {ds : List D} (h : SqT G.K B a vs) (r : RepAll G F vs ds) : WalkD G F B (Itt G.K a) ds :=
  .of_walk walk_tup r.length (fun H s => Same.sqT s h) fun i F2 H2 x H3 hi s1 s2 _ ⟨e1, e2⟩ => by
    subst e1
    obtain ⟨d, h1, h2⟩ := r.getV e2
    exact ⟨F2, d, Grow.refl s2, h1, h2.mono s1⟩
theorem WalkD.scr {G : GC} {F B : Hp} {a : Addr} {ns : List Int} (h : SqL G.K B a (ns.map V.int)) : WalkD G F B (Itl G.K a) (ns.map D.int) :=
  .of_walk walk_list (by simp) (fun H s => s.seq h) fun i F2 H2 x H3 hi s1 s2 _ ⟨e1, e2⟩ => by
    subst e1
    rw [List.getElem?_map, Option.map_eq_some_iff] at e2
    obtain ⟨n, h1, h2⟩ := e2
    subst h2
    exact ⟨F2, .int n, Grow.refl s2, by rw [List.getElem?_map, h1]; rfl, .int n⟩
def signsOf (z : Str) : List D := z.cps.toList.map fun c => D.str ⟨#[c]⟩
theorem WalkD.str {G : GC} {F B : Hp} {z : Str} : WalkD G F B (Its z) (signsOf z) :=
  .of_walk walk_str (by simp [signsOf]) (fun _ _ => trivial) fun i F2 H2 x H3 hi s1 s2 _ ⟨e1, c, e2, e3⟩ => by
    subst e1 e3
    refine ⟨F2, .str ⟨#[c]⟩, Grow.refl s2, ?_, .str _⟩
    unfold signsOf
    rw [List.getElem?_map, Array.getElem?_toList, e2]
    rfl
def rangeL (lo : Int) (n : Nat) : List D := (List.range n).map fun i => D.int (lo + (i : Nat))
theorem WalkD.range {G : GC} {F B : Hp} {lo : Int} {n : Nat} : WalkD G F B (Itr lo n) (rangeL lo n) :=
  .of_walk walk_range (by simp [rangeL]) (fun _ _ => trivial) fun i F2 H2 x H3 hi s1 s2 _ ⟨e1, e2⟩ => by
    subst e1 e2
    refine ⟨F2, .int (lo + i), Grow.refl s2, ?_, .int _⟩
    have hi' : i < n := by simpa [rangeL] using hi
    unfold rangeL
    rw [List.getElem?_map, List.getElem?_range hi']
    rfl
@[simp] def itemsS : D → Res (List D)
  | .lst xs => .ok xs
  | .tup xs => .ok xs
  | .scr ns => .ok (ns.map D.int)
  | .str z => .ok (signsOf z)
  | _ => .bad
section
variable {X : Cx} {W : Wi} {e tg : Expr} {fe : Env → Res D} {p pos tpos : Pos}
theorem re_iterS (he : RE X W .S e fe) : RI X W true tg e (fun r => fe r >>= itemsS) := by
  refine ⟨fun pins s σ H R I ⟨H0, F0, fp, F, r, m, o⟩ => ?_⟩
  have o : Out (gOf X) W σ F H _ (fe r >>= itemsS) := o
  cases ef : fe r with
  | er x => exact (pi_list he).run pins s σ H R I ⟨H0, F0, fp, F, r, m, by rw [ef] at o ⊢; exact o⟩
  | bad => rw [ef] at o; exact o.elim
  | ok d =>
    rw [ef] at o
    cases d with
    | lst ds => exact (pi_list he).run pins s σ H R I ⟨H0, F0, fp, F, r, m, by
        rw [ef]
        intro F' H' gr v kv
        have kv' : Rep (gOf X) F' v (.lst ds) := kv
        cases kv' with
        | lst h1 r1 => exact ⟨_, rfl, ⟨_, .of (gr.sub _ _ h1)⟩, o F' H' gr _ (WalkD.list h1 r1)⟩⟩
    | tup ds => exact (pi_tup he).run pins s σ H R I ⟨H0, F0, fp, F, r, m, by
        rw [ef]
        intro F' H' gr v kv
        have kv' : Rep (gOf X) F' v (.tup ds) := kv
        cases kv' with
        | tup h1 r1 => exact ⟨_, rfl, ⟨_, Same.sqT gr.sub h1⟩, o F' H' gr _ (WalkD.tup h1 r1)⟩⟩
    | scr ns => exact (pi_list he).run pins s σ H R I ⟨H0, F0, fp, F, r, m, by
        rw [ef]
        intro F' H' gr v kv
        have kv' : Rep (gOf X) F' v (.scr ns) := kv
        cases kv' with
        | scr h1 => exact ⟨_, rfl, ⟨_, gr.sub.seq h1⟩, o F' H' gr _ (WalkD.scr h1)⟩⟩
    | str z => exact (pi_str he).run pins s σ H R I ⟨H0, F0, fp, F, r, m, by
        rw [ef]
        intro F' H' gr v kv
        have kv' : Rep (gOf X) F' v (.str z) := kv
        cases kv'
        exact ⟨z, rfl, o F' H' gr _ WalkD.str⟩⟩
    | _ => exact o.elim
/-- range(n), range(m, n) in the sizes that are walked -/
def rng1 : List D → Res (List D)
  | [.int n] => if -1000000000 ≤ n ∧ n ≤ 1000000000 then .ok (rangeL 0 n.toNat) else .bad
  | _ => .bad
theorem rng1_inv {ds : List D} : (∃ n, ds = [.int n] ∧ (-1000000000 ≤ n ∧ n ≤ 1000000000) ∧ rng1 ds = .ok (rangeL 0 n.toNat)) ∨ rng1 ds = .bad := by
  unfold rng1
  split
  · split
    · rename_i n h; exact .inl ⟨n, rfl, h, rfl⟩
    · exact .inr rfl
  · exact .inr rfl
theorem ri_range1 {b : Bool} {a : Expr} {fa : Env → Res (List D)} (hm : X.mg "range" = none) (ha : RAR X W [a] fa) (hg : Gl X "range" := by rfl) (hs : starEach [a] X.env = [(false, eval a X.env)] := by rfl) : RI X W b tg (.Call (.Name "range" p) [a] [] pos) (fun r => fa r >>= rng1) := by
  refine ⟨fun pins s σ H R I ⟨H0, F0, fp, F, r, m, o⟩ => (pi_range1 hg hm ha hs).run pins s σ H R I ⟨H0, F0, fp, F, r, m, o.bind fun F' H' ds gr o2 vs rv => ?_⟩⟩
  rcases rng1_inv (ds := ds) with ⟨n, rfl, hn, e⟩ | e
  · rw [e] at o2
    cases rv with
    | cons r1 rr =>
      cases rr
      exact ⟨n, by rw [RdD.int r1], by omega, by omega, o2 F' H' (Grow.refl gr.sub) _ WalkD.range⟩
  · rw [e] at o2; exact o2.elim
/-- what a block raises is not looked after -/
def nE {α : Type} : Res α → Res α
  | .ok a => .ok a
  | _ => .bad
@[simp] theorem nE_ok {α : Type} (a : α) : nE (.ok a) = .ok a := rfl
theorem nE_some {α : Type} {x : Res α} {a : α} (h : nE x = .ok a) : x = .ok a := by
  cases x <;> first | exact h | cases h
def lcD (g : D → Env → Res Env) (t : Env → Res Bool) (f : Env → Res D) (r : Env) : List D → Res (List D)
  | [] => .ok []
  | d :: ds => nE (g d r) >>= fun r1 => nE (t r1) >>= fun b => if b = true then nE (f r1) >>= fun x => lcD g t f r ds >>= fun xs => .ok (x :: xs) else lcD g t f r ds
@[simp] def lstD (ds : List D) : Res D := if ds.length ≤ lim then .ok (.lst ds) else .bad
/-- the block's own names forgotten -/
def wipeR (r : Env) : List Nat → Env
  | [] => r
  | v :: vs => (wipeR r vs).set v .un
theorem MS.wipe {G : GC} {J J' : L2.St → Prop} {H0 F0 F H : Hp} {fp : Nat → List Addr} {σ : L2.St} {r : Env} (m : MS G J H0 F0 fp F σ H r) : ∀ (vs : List Nat), J' (L2.wipe σ vs) → MS G J' H0 F0 fp F (L2.wipe σ vs) H (wipeR r vs)
  | vs, j => by
    have len : ∀ vs : List Nat, (wipeR r vs).length = r.length := fun vs => by
      induction vs with
      | nil => rfl
      | cons v vs ih => rw [wipeR, List.length_set, ih]
    have some1 : ∀ (vs : List Nat) {i : Nat} {s : Slot}, (wipeR r vs)[i]? = some s → s ≠ .un → r[i]? = some s ∧ i ∉ vs := fun vs => by
      induction vs with
      | nil => exact fun h _ => ⟨h, by simp⟩
      | cons v vs ih =>
        intro i s h ne
        rcases get_set_slot h with ⟨_, x, _⟩ | ⟨n, h⟩
        · exact absurd x.symm ne
        · obtain ⟨h1, h2⟩ := ih h ne
          exact ⟨h1, by simp only [List.mem_cons, not_or]; exact ⟨Ne.symm n, h2⟩⟩
    have keep : ∀ (vs : List Nat) {i : Nat}, i ∉ vs → (L2.wipe σ vs)[i]? = σ[i]? := fun vs => by
      induction vs with
      | nil => exact fun _ => rfl
      | cons v vs ih =>
        intro i h
        simp only [List.mem_cons, not_or] at h
        unfold L2.wipe
        rw [List.getElem?_set_ne (Ne.symm h.1)]
        exact ih h.2
    exact {
      jo := j
      s0 := m.s0
      t0 := m.t0
      f0 := m.f0
      sub := m.sub
      new := m.new
      len := by rw [len, m.len, wipe_length]
      sh := fun i d h => by
        obtain ⟨h1, h2⟩ := some1 vs h (by simp)
        rw [keep vs h2]
        exact m.sh i d h1
      ow := fun i s d h => by
        obtain ⟨h1, h2⟩ := some1 vs h (by simp)
        rw [keep vs h2]
        exact m.ow i s d h1
      ap := fun i k s t d e ne h1 h2 => m.ap i k s t d e ne (some1 vs h1 (by simp)).1 (some1 vs h2 (by simp)).1 }
theorem MS.mapJ {G : GC} {J J' : L2.St → Prop} {H0 F0 F H : Hp} {fp : Nat → List Addr} {σ : L2.St} {r : Env} (m : MS G J H0 F0 fp F σ H r) (j : J' σ) : MS G J' H0 F0 fp F σ H r := ⟨j, m.s0, m.f0, m.sub, m.new, m.len, m.sh, m.ow, m.ap, m.t0⟩
theorem wipe_wipe : ∀ (vs : List Nat) (σ : L2.St), L2.wipe (L2.wipe σ vs) vs = L2.wipe σ vs := fun vs σ => by
  have at1 : ∀ (vs : List Nat) (σ : L2.St) (i : Nat), (L2.wipe σ vs)[i]? = if i ∈ vs then σ[i]?.map fun _ => none else σ[i]? := fun vs => by
    induction vs with
    | nil => intro σ i; simp [L2.wipe]
    | cons v vs ih =>
      intro σ i
      unfold L2.wipe
      by_cases h : v = i
      · subst h
        rw [if_pos List.mem_cons_self]
        by_cases hv : v < (L2.wipe σ vs).length
        · rw [List.getElem?_set_self hv]
          rw [wipe_length] at hv
          rw [List.getElem?_eq_getElem hv]
          rfl
        · rw [List.getElem?_eq_none (by simpa using hv)]
          rw [wipe_length] at hv
          rw [List.getElem?_eq_none (by simpa using hv)]
          rfl
      · rw [List.getElem?_set_ne h, ih]
        simp only [List.mem_cons, show (i = v) = False from eq_false (Ne.symm h), false_or]
  apply List.ext_getElem?
  intro i
  rw [at1, at1]
  by_cases h : i ∈ vs
  · rw [if_pos h, if_pos h]
    cases σ[i]? <;> rfl
  · rw [if_neg h]
theorem wipe_set {vs : List Nat} {i : Nat} (hi : i ∈ vs) (σ : L2.St) (v : Option V) : L2.wipe (σ.set i v) vs = L2.wipe σ vs := by
  induction vs generalizing i with
  | nil => cases hi
  | cons w vs ih =>
    unfold L2.wipe
    by_cases h : i ∈ vs
    · rw [ih h]
    · have e : i = w := by simpa [h] using hi
      subst e
      have z : ∀ (vs : List Nat) (σ : L2.St), i ∉ vs → L2.wipe (σ.set i v) vs = (L2.wipe σ vs).set i v := fun vs => by
        induction vs with
        | nil => exact fun _ _ => rfl
        | cons x vs ih =>
          intro σ h
          simp only [List.mem_cons, not_or] at h
          unfold L2.wipe
          rw [ih σ h.2, List.set_comm _ _ h.1]
      rw [z vs σ h, List.set_set]
abbrev W0 : Wi := ⟨fun _ _ _ _ => False, fun _ => True⟩
abbrev JB (vs : List Nat) (σ : L2.St) : L2.St → Prop := fun τ => L2.wipe τ vs = L2.wipe σ vs
theorem jb {i : Nat} {vs : List Nat} {σ0 : L2.St} (hi : i ∈ vs) : ∀ (σ : L2.St) (v : Option V), JB vs σ0 σ → JB vs σ0 (σ.set i v) := fun σ v h => (wipe_set hi σ v).trans h
theorem Out.nE {G : GC} {W W' : Wi} {σ τ : L2.St} {α : Type} {F H : Hp} {P : Hp → Hp → α → Prop} {x : Res α} {a : α} (e : nE x = .ok a) (h : ∀ F' H', Grow F H F' H' → P F' H' a) : Out G W σ F H P x := by
  rw [nE_some e]
  exact h
theorem t_lc {G : GC} {b : Bool} {fi : Env → Res (List D)} {g : D → Env → Res Env} {t : Env → Res Bool} {f : Env → Res D} {vs : List Nat} (σ : L2.St) (H : Hp) (Q : VK)
    (h : tE G W (.O .flat) (fun r => fi r >>= fun ds => lcD g t f (wipeR r vs) ds >>= lstD) σ H Q) : tLc (tI G W b fi) (tGd G (JB vs σ) g) (tT G W0 t) (tE G W0 .S f) vs σ H Q := by
  obtain ⟨H0, F0, fp, F, r, m, o⟩ := h
  refine ⟨H0, F0, fp, F, r, m, o.bind fun F1 H1 ds g1 o1 J w D hD => ?_⟩
  cases e : lcD g t f (wipeR r vs) ds with
  | er x =>
    exfalso
    have z : ∀ (ds : List Mir.D) (x : Mir.D), lcD g t f (wipeR r vs) ds ≠ .er x := fun ds => by
      induction ds with
      | nil => exact fun x h => nomatch h
      | cons d ds ih =>
        intro x h
        rw [lcD] at h
        cases e1 : nE (g d (wipeR r vs)) with
        | er y => cases hg : g d (wipeR r vs) <;> (rw [hg] at e1; cases e1)
        | bad => rw [e1] at h; cases h
        | ok r1 =>
          rw [e1] at h
          simp only [ok_bind] at h
          cases e2 : nE (t r1) with
          | er y => cases hg : t r1 <;> (rw [hg] at e2; cases e2)
          | bad => rw [e2] at h; cases h
          | ok bb =>
            rw [e2] at h
            simp only [ok_bind] at h
            cases bb with
            | false => exact ih x h
            | true =>
              rw [if_pos rfl] at h
              cases e3 : nE (f r1) with
              | er y => cases hg : f r1 <;> (rw [hg] at e3; cases e3)
              | bad => rw [e3] at h; cases h
              | ok y =>
                rw [e3] at h
                simp only [ok_bind] at h
                cases e4 : lcD g t f (wipeR r vs) ds with
                | er z => exact ih z e4
                | bad => rw [e4] at h; cases h
                | ok zs => rw [e4] at h; cases h
    exact z _ _ e
  | bad => rw [e] at o1; exact o1.elim
  | ok out =>
    rw [e] at o1
    have hl : out.length ≤ lim := by
      by_cases h : out.length ≤ lim
      · exact h
      · simp only [ok_bind] at o1
        unfold lstD at o1
        rw [if_neg h] at o1
        exact o1.elim
    have o2 : ∀ F' H', Grow F1 H1 F' H' → ∀ v, (Kd.O .flat).Rep G H F' H' v (.lst out) → Q v H' := by
      have o1' : Out G W σ F1 H1 _ (lstD out) := o1
      unfold lstD at o1'
      rw [if_pos hl] at o1'
      exact o1'
    clear o1
    have gD : Grow F1 H1 F1 (upd H1 D (.lst [])) := Grow.own g1.sub hD
    refine ⟨fun i mm H => mm = ds.length - i ∧ i ≤ ds.length ∧ ∃ F acc accD rest, Grow F1 H1 F H ∧ F D = none ∧ H D = some (.lst acc) ∧ RepAll G F acc accD ∧ lcD g t f (wipeR r vs) (ds.drop i) = .ok rest ∧ out = accD ++ rest,
      ⟨ds.length, by simp, Nat.zero_le _, F1, [], [], out, gD, g1.sub.free hD, upd_same, .nil, by rw [List.drop_zero]; exact e, by simp⟩, ?_⟩
    rintro i mm H2 ⟨rfl, hi, F2, acc, accD, rest, g2, nD, hD2, ra, el, eo⟩
    have sB : Same (if b = true then F1 else nT H1) H2 := by
      cases b with
      | true => rw [if_pos rfl]; exact g2.f.trans g2.sub
      | false => exact g2.h.nT
    by_cases hlt : i < ds.length
    · refine .inr ⟨w.goes i H2 hlt sB, fun H' => i + 1 ≤ ds.length ∧ ∃ F acc accD rest, Grow F1 H1 F H' ∧ F D = none ∧ H' D = some (.lst acc) ∧ RepAll G F acc accD ∧ lcD g t f (wipeR r vs) (ds.drop (i + 1)) = .ok rest ∧ out = accD ++ rest,
        fun H' q => ⟨ds.length - (i + 1), by omega, rfl, q.1, q.2⟩, fun x H3 y => ?_⟩
      obtain ⟨F3, d, g3, ed, rx⟩ := w.yields i F2 H2 x H3 hlt g2.f g2.sub sB y
      have e1 : ds.drop i = d :: ds.drop (i + 1) := by
        rw [List.drop_eq_getElem_cons hlt]
        rw [List.getElem?_eq_getElem hlt] at ed
        rw [Option.some.inj ed]
      rw [e1, lcD] at el
      have nD3 : F3 D = none := by
        cases z : F3 D with
        | none => rfl
        | some u =>
          rcases g3.new D u z with q | q
          · rw [nD] at q; cases q
          · rw [hD2] at q; cases q
      cases eg : nE (g d (wipeR r vs)) with
      | er y => rw [eg] at el; cases el
      | bad => rw [eg] at el; cases el
      | ok r1 =>
        rw [eg] at el
        simp only [ok_bind] at el
        have m3 := ((m.grow g1).grow g2).grow g3
        refine ⟨H0, F0, fp, F3, wipeR r vs, d, m3.wipe vs (wipe_wipe vs σ), rx, r1, nE_some eg, fun fp4 σ4 m4 => ⟨m4.jo, ?_⟩⟩
        cases et : nE (t r1) with
        | er y => rw [et] at el; cases el
        | bad => rw [et] at el; cases el
        | ok bb =>
          rw [et] at el
          simp only [ok_bind] at el
          refine ⟨H0, F0, fp4, F3, r1, m4.mapJ trivial, Out.nE (W' := W0) (τ := σ) et fun F5 H5 g5 => ?_⟩
          have g25 := g2.trans (g3.trans g5)
          have D5 : H5 D = some (.lst acc) := g5.h.at _ _ (g3.h.at _ _ hD2)
          have nD5 : F5 D = none := by
            cases z : F5 D with
            | none => rfl
            | some u =>
              rcases g5.new D u z with q | q
              · rw [nD3] at q; cases q
              · rw [g3.h.at _ _ hD2] at q; cases q
          cases bb with
          | false => exact ⟨hlt, F5, acc, accD, rest, g25, nD5, D5, ra.mono (g3.f.trans g5.f), el, eo⟩
          | true =>
            rw [if_pos rfl] at el
            show tE G W0 .S f σ4 H5 _
            cases ex : nE (f r1) with
            | er y => rw [ex] at el; cases el
            | bad => rw [ex] at el; cases el
            | ok dx =>
              rw [ex] at el
              simp only [ok_bind] at el
              cases er : lcD g t f (wipeR r vs) (ds.drop (i + 1)) with
              | er y => rw [er] at el; cases el
              | bad => rw [er] at el; cases el
              | ok rest' =>
                rw [er] at el
                have er2 : rest = dx :: rest' := (Res.ok.inj el).symm
                subst er2
                refine ⟨H0, F0, fp4, F5, r1, (m4.mapJ trivial).grow g5, Out.nE (W' := W0) (τ := σ) ex fun F6 H6 g6 v kv => ⟨acc, g6.h.at _ _ D5, ?_, hlt, F6, acc ++ [v], accD ++ [dx], rest', ?_, ?_, upd_same, (ra.mono ((g3.f.trans g5.f).trans g6.f)).append (.cons kv .nil), rfl, by rw [eo]; simp⟩⟩
                · have hle : acc.length < out.length := by rw [eo, ra.length]; simp
                  exact Nat.lt_of_lt_of_le hle (Nat.le_trans hl lim_le)
                · have g26 := g25.trans g6
                  have nD6 : F6 D = none := by
                    cases z : F6 D with
                    | none => rfl
                    | some u =>
                      rcases g6.new D u z with q | q
                      · rw [nD5] at q; cases q
                      · rw [D5] at q; cases q
                  exact ⟨g26.h.upd hD, g26.f, fun b u q => by rw [upd_ne (ne_of_none q nD6)]; exact g26.sub b u q, g26.new⟩
                · cases z : F6 D with
                  | none => rfl
                  | some u =>
                    rcases g6.new D u z with q | q
                    · rw [nD5] at q; cases q
                    · rw [D5] at q; cases q
    · have ei : i = ds.length := by omega
      subst ei
      rw [List.drop_length] at el
      cases el
      rw [List.append_nil] at eo
      subst eo
      exact .inl ⟨w.stops H2 sB, o2 F2 H2 g2 _ ⟨[D], Own.lst rfl hD2 nD (OwnAll.of_rep ra) (by simp), fun a ha => by rw [List.mem_singleton.mp ha]; exact g1.h.free hD⟩⟩
abbrev RTs (X : Cx) (W : Wi) (es : List Expr) (f : Env → Res Bool) : Prop := PTs X es (tT (gOf X) W f)
theorem PTs.imp {es : List Expr} {t t' : TT} (h : PTs X es t) (i : ∀ σ H Q, t' σ H Q → t σ H Q) : PTs X es t' := ⟨fun pins s σ H Q I hw => h.run pins s σ H Q I (i σ H Q hw)⟩
theorem rts_nil : RTs X W [] (fun _ => .ok true) := PTs.imp pts_nil fun σ H Q ⟨H0, F0, fp, F, r, m, o⟩ => o F H (Grow.refl m.sub)
theorem re_lc {b : Bool} {elt iter : Expr} {ifs : List Expr} {scope : Scope} {fi : Env → Res (List D)} {g : D → Env → Res Env} {t : Env → Res Bool} {f : Env → Res D} (own : List (Str × Nat)) (hc : X.calm = true) (hN : X.N.Nodup) (hi : RI X W b tg iter fi) (ok : BlkOk X.N X.env.scope scope own)
    (hg : ∀ (s : Shared) (H : Hp) (C : Addr) (cl : List (Str × Addr)) (fp : List Addr) (σ : L2.St), RG (X.blk s H scope (compEnvC scope cl C X.env) fp) (JB (own.map (·.2)) σ) tg g)
    (ht : ∀ (s : Shared) (H : Hp) (C : Addr) (cl : List (Str × Addr)) (fp : List Addr), RTs (X.blk s H scope (compEnvC scope cl C X.env) fp) W0 ifs t)
    (he : ∀ (s : Shared) (H : Hp) (C : Addr) (cl : List (Str × Addr)) (fp : List Addr), RE (X.blk s H scope (compEnvC scope cl C X.env) fp) W0 .S elt f) (hs : ∀ x, foldedSetIterable iter X.env x = pure x := by intro _; rfl) :
    RE X W (.O .flat) (.ListComp elt [⟨tg, iter, ifs, 0⟩] scope pos) (fun r => fi r >>= fun ds => lcD g t f (wipeR r (own.map (·.2))) ds >>= lstD) :=
  ⟨fun pins s σ H Q I h => (pe_lc (g := tGd (gOf X) (JB (own.map (·.2)) σ) g) hc hN hi ok (fun s H C cl fp => hg s H C cl fp σ) ht he hs).run pins s σ H Q I (t_lc σ H Q h)⟩
end
end Mir
namespace Mir
open PySem PySem.Spec PyProof.Rows L2
variable [Tn]
inductive Tg where
  | t (n : String)
  | c (k : Nat)
  deriving DecidableEq
def tgOf : D → Tg
  | .non => .t "NoneType"
  | .bl _ => .t "bool"
  | .int _ => .t "int"
  | .str _ => .t "str"
  | .tup _ => .t "tuple"
  | .lst _ => .t "list"
  | .scr _ => .t "list"
  | .dic _ _ => .t "dict"
  | .obj c _ => .c c
  | .exc c _ => .c c
  | .cls _ => .t "type"
  | .ty _ => .t "type"
def bS : List String := ["NoneType", "bool", "int", "str", "tuple", "list", "dict"]
def bT : List String := ["int", "bool", "str", "tuple", "list", "dict", "ValueError"]
def clsTg : D → Option Tg
  | .cls c => some (.c c)
  | .ty n => some (.t n)
  | _ => none
def tgV (ca : Nat → Addr) : Tg → Value
  | .t n => .type n
  | .c k => .ref (ca k)
/-- the class b is over the class a -/
def overC (a b : Nat) : Bool := (a == b) || (b == 5 && decide (a < 2)) || (b == 10 && decide (10 < a))
/-- what isinstance says -/
def isaT : Tg → Tg → Bool
  | .t a, .t b => (a == b) || (a == "bool" && b == "int")
  | .t _, .c _ => false
  | .c a, .c b => overC a b
  | .c a, .t b => decide (10 ≤ a) && b == "ValueError"
structure ObjC (K : PySem.W.Frag) (C : Addr) : Prop where
  cl : Cls K C
  ha : PySem.W.findIn K (.ref C) "__class__" = some (some (.builtin "object.__class__"))
  hn : PySem.W.specialIn K (.builtin "object.__class__") "__get__" = some (some (.builtin "getset_descriptor.__get__"))
  ht : PySem.W.takesIn K (.builtin "object.__class__") = some true
  hm : PySem.W.mroIn K C (.type "object") = some true
structure ExcC (K : PySem.W.Frag) (C : Addr) : Prop where
  cl : (PySem.W.clsIn K C).isSome = true
  hg : PySem.W.findIn K (.ref C) "__getattribute__" = some (some (.builtin "BaseException.__getattribute__"))
  hk : PySem.W.findIn K (.ref C) "__getattr__" = some none
  hs : PySem.W.subIn K (.ref C) (.type "BaseException") = some true
  ha : PySem.W.findIn K (.ref C) "__class__" = some (some (.builtin "object.__class__"))
  hn : PySem.W.specialIn K (.builtin "object.__class__") "__get__" = some (some (.builtin "getset_descriptor.__get__"))
  ht : PySem.W.takesIn K (.builtin "object.__class__") = some true
  hm : PySem.W.mroIn K C (.type "object") = some true
/-- the classes cs may be asked for, the classes us may be asked about -/
structure IsM (K : PySem.W.Frag) (ca : Nat → Addr) (cs us : List Nat) : Prop where
  oo : ∀ c ∈ cs, ∀ u ∈ us, PySem.W.kitOne K (.ref (ca c)) (.ref (ca u)) = some (overC c u)
  ot : ∀ c ∈ cs, ∀ u ∈ bT, PySem.W.kitOne K (.ref (ca c)) (.type u) = some (isaT (.c c) (.t u))
  to : ∀ b ∈ bS, ∀ u ∈ us, PySem.W.kitOne K (.type b) (.ref (ca u)) = some false
  ob : ∀ c ∈ cs, c < 10 → ObjC K (ca c)
  ex : ∀ c ∈ cs, 10 ≤ c → ExcC K (ca c)
def okS (cs : List Nat) : Tg → Bool
  | .t n => bS.contains n
  | .c k => cs.contains k
def okD (cs : List Nat) (d : D) : Bool := okS cs (tgOf d) && (match d with
  | .obj c _ => decide (c < 10)
  | .exc c _ => decide (10 ≤ c)
  | _ => true)
def okT (us : List Nat) : Tg → Bool
  | .t n => bT.contains n
  | .c k => us.contains k
theorem bST : ∀ a ∈ bS, ∀ b ∈ bT, kitB a b = some (isaT (.t a) (.t b)) := by decide +kernel
theorem IsM.one {K : PySem.W.Frag} {ca : Nat → Addr} {cs us : List Nat} (M : IsM K ca cs us) {t u : Tg} (h1 : okS cs t = true) (h2 : okT us u = true) : PySem.W.kitOne K (tgV ca t) (tgV ca u) = some (isaT t u) := by
  cases t with
  | t a =>
    have ha : a ∈ bS := by simpa [okS] using h1
    cases u with
    | t b => exact kit_ty (bST a ha b (by simpa [okT] using h2))
    | c k => exact M.to a ha k (by simpa [okT] using h2)
  | c a =>
    have ha : a ∈ cs := by simpa [okS] using h1
    cases u with
    | t b => exact M.ot a ha b (by simpa [okT] using h2)
    | c k => exact M.oo a ha k (by simpa [okT] using h2)
theorem IsM.any {K : PySem.W.Frag} {ca : Nat → Addr} {cs us : List Nat} (M : IsM K ca cs us) {t : Tg} (h1 : okS cs t = true) : ∀ {l : List Tg}, l.all (okT us) = true → PySem.W.kitAny K (tgV ca t) (l.map (tgV ca)) = some (l.any (isaT t))
  | [], _ => rfl
  | u :: l, h => by
    rw [List.all_cons, Bool.and_eq_true] at h
    rw [List.map_cons, List.any_cons]
    refine kitAny_cons (M.one h1 h.1) (fun e => ?_) fun e => ?_
    · rw [e, Bool.false_or]; exact IsM.any M h1 h.2
    · rw [e, Bool.true_or]
def optAll : List D → Option (List Tg)
  | [] => some []
  | d :: ds => match clsTg d, optAll ds with
    | some t, some ts => some (t :: ts)
    | _, _ => none
/-- isinstance over data -/
def isD (cs us : List Nat) (d c : D) : Res D := if okD cs d = true then (match clsTg c with
    | some u => if okT us u = true then .ok (.bl (isaT (tgOf d) u)) else .bad
    | none => match c with
      | .tup es => match optAll es with
        | some l => if l.all (okT us) = true then .ok (.bl (l.any (isaT (tgOf d)))) else .bad
        | none => .bad
      | _ => .bad) else .bad
theorem ne_isD {cs us : List Nat} : NoEr2 (isD cs us) := fun a b e z => by
  unfold isD at z
  split at z
  · split at z
    · split at z <;> cases z
    · split at z
      · split at z
        · split at z <;> cases z
        · cases z
      · cases z
  · cases z
section
variable {X : Cx} {pins : List (Addr × Obj)} {σ : L2.St} {H F : Hp} {s : Shared}
theorem kit_rd {cs us : List Nat} {v : V} {u : Value} {d : D} (M : IsM X.K (gOf X).ca cs us) (I : L2.Inv X pins σ H s) (sF : Same F H) (h : RdD (gOf X) F H v d) (r : RelV v u) (hk : okD cs d = true) :
    ∃ P : Heap → Prop, PySem.W.KitX X.K u (tgV (gOf X).ca (tgOf d)) P ∧ P s.heap ∧ u ≠ .builtin "__main__.__loader__#opaque" := by
  cases d with
  | non => rw [RdD.non h] at r; exact kit_of I r (.base .non)
  | bl b => rw [RdD.bl h] at r; exact kit_of I r (.base (.bl b))
  | int i => rw [RdD.int h] at r; exact kit_of I r (.base (.int i))
  | str z => rw [RdD.str h] at r; exact kit_of I r (.base (.str z))
  | tup ds =>
    obtain ⟨a, vs, rfl, q, _⟩ := h.tup sF
    rcases q with (q | ⟨o, q⟩) | ⟨o, its, n, q, c, _⟩
    · exact kit_of I r (.base (.tup q))
    · exact kit_of I r (.fTuple q)
    · exact kit_of I r (.kTuple q c)
  | lst ds =>
    obtain ⟨a, vs, rfl, q, _⟩ := h.lst sF
    exact kit_of I r (.base (.lst q))
  | scr ns =>
    obtain ⟨a, rfl, q⟩ := h.scr sF
    rcases q with (q | ⟨o, q⟩) | ⟨o, its, n, q, c, _⟩
    · exact kit_of I r (.base (.lst q))
    · exact kit_of I r (.base (.frz q))
    · exact kit_of I r (.kList q c)
  | dic ks vs =>
    obtain ⟨a, o, xs, ws, rfl, q, _, dd, _⟩ := h.dic sF
    cases (show u = Value.ref a from r)
    obtain ⟨e, _⟩ := (show ObjOk X.prog X.w H s.heap a (.ext (isObj' a o)) from I.hok a _ q)
    exact ⟨_, PySem.W.kitx_dict, ⟨o, e, dd.ex.1⟩, fun z => nomatch z⟩
  | obj c vs =>
    unfold okD at hk
    rw [Bool.and_eq_true] at hk
    have hc : c ∈ cs := by simpa [okS, tgOf] using hk.1
    have O := M.ob c hc (of_decide_eq_true hk.2)
    obtain ⟨a, dx, fs, rfl, q⟩ := h.obj sF
    exact kit_of I r (.base (.ins q O.cl O.ha O.hn O.ht O.hm))
  | exc c vs =>
    unfold okD at hk
    rw [Bool.and_eq_true] at hk
    have hc : c ∈ cs := by simpa [okS, tgOf] using hk.1
    have O := M.ex c hc (of_decide_eq_true hk.2)
    rcases h with h | ⟨A, h⟩
    · have ins : ∀ {a : Addr} {d : Option Addr} {od : Option Obj}, (∃ oe us, s.heap.get? a = some oe ∧ oe.cls = .ref ((gOf X).ca c) ∧ oe.dict = d ∧ oe.data = .fields us) → (match d, od with | some dx, some o => s.heap.get? dx = some o | none, none => True | _, _ => False) → ∃ oe, PySem.W.InstAt s.heap a oe ((gOf X).ca c) od := fun {a d od} ⟨oe, us, h1, h2, h3, h4⟩ hd =>
        ⟨oe, h1, h2, by unfold PySem.W.notCls; rw [h4], by rw [h3]; exact hd⟩
      have fin : ∀ {a : Addr} {oe : Obj} {od : Option Obj}, PySem.W.InstAt s.heap a oe ((gOf X).ca c) od → u = .ref a → ∃ P : Heap → Prop, PySem.W.KitX X.K u (tgV (gOf X).ca (tgOf (.exc c vs))) P ∧ P s.heap ∧ u ≠ .builtin "__main__.__loader__#opaque" := fun {a oe od} J e => by
        subst e
        exact ⟨_, PySem.W.kitx_exc O.cl O.hg O.hk O.hs O.ha O.hn O.ht O.hm, J, fun z => nomatch z⟩
      cases h with
      | exc h1 _ =>
        obtain ⟨e, _⟩ := (show ObjOk X.prog X.w H s.heap _ (.ext (isExc _ ((gOf X).ca c) none)) from I.hok _ _ (sF _ _ h1))
        obtain ⟨oe, J⟩ := ins (od := none) e trivial
        exact fin J r
      | excF h1 h2 _ _ =>
        obtain ⟨e, _⟩ := (show ObjOk X.prog X.w H s.heap _ (.ext (isExc _ ((gOf X).ca c) (some _))) from I.hok _ _ (sF _ _ h1))
        obtain ⟨mA, ⟨od, _, _, e2, _⟩, _⟩ := (show ObjOk X.prog X.w H s.heap _ (.xd _) from I.hok _ _ (sF _ _ h2))
        obtain ⟨oe, J⟩ := ins (od := some od) e e2
        exact fin J r
    · cases h
  | cls c => cases hk
  | ty n => cases hk
theorem cls_val {F : Hp} {v : V} {d : D} {u : Value} {t : Tg} (h : Rep (gOf X) F v d) (e : clsTg d = some t) (r : RelV v u) : u = tgV (gOf X).ca t := by
  cases h with
  | cls hm =>
    cases e
    have r' : u = .ref _ := r
    rw [r']
    show Value.ref _ = .ref ((gOf X).ca _)
    rw [ca_of hm]
  | ty n =>
    cases e
    exact r
  | _ => cases e
theorem cls_vals {F : Hp} : ∀ {vs : List V} {ds : List D} {us : List Value} {l : List Tg}, RepAll (gOf X) F vs ds → optAll ds = some l → Vals vs us → us = l.map (tgV (gOf X).ca)
  | _, _, _, _, .nil, e, .nil => by cases e; rfl
  | _, _, _, _, .cons r t, e, .cons q k => by
    rw [optAll] at e
    split at e
    · rename_i a b h1 h2
      cases e
      rw [cls_val r h1 q, cls_vals t h2 k]
      rfl
    · cases e
theorem RdD.clsS {v : V} {d : D} {t : Tg} (h : RdD (gOf X) F H v d) (e : clsTg d = some t) : Rep (gOf X) F v d := by
  rcases h with h | ⟨A, h⟩
  · exact h
  · cases h <;> cases e
def rIs (X : Cx) (cs us : List Nat) : List V → Hp → VK → Prop := fun xs H Q => ∃ (F : Hp) (x y : V) (d c e : D), xs = [x, y] ∧ Same F H ∧ RdD (gOf X) F H x d ∧ RdD (gOf X) F H y c ∧ isD cs us d c = .ok e ∧ ∀ v, Rep (gOf X) F v e → Q v H
theorem call_is {cs us : List Nat} (M : IsM X.K (gOf X).ca cs us) : CallR X (.builtin "isinstance") (rIs X cs us) := by
  intro pins s σ H xs ws Q I r h
  obtain ⟨F, x, y, d, c, e, rfl, sF, hd, hc, he, q⟩ := h
  obtain ⟨u1, u2, rfl, r1, r2⟩ := vals2 r
  unfold isD at he
  split at he
  · rename_i hok
    obtain ⟨P, Z, p, hx⟩ := kit_rd M I sF hd r1 hok
    have hok : okS cs (tgOf d) = true := by
      unfold okD at hok
      rw [Bool.and_eq_true] at hok
      exact hok.1
    split at he
    · rename_i t ht
      split at he <;> cases he
      rename_i h2
      have e2 := cls_val (hc.clsS ht) ht r2
      subst e2
      exact PySem.W.kia_one Z I.kIn p (M.one hok h2) hx fun tk => ⟨.bl _, H, I.tok tk, rfl, q _ (.bl _)⟩
    · split at he
      · rename_i es
        split at he
        · rename_i l hl
          split at he <;> cases he
          rename_i h2
          obtain ⟨a, vs, rfl, q1, ra⟩ := hc.tup sF
          cases (show u2 = Value.ref a from r2)
          obtain ⟨its, rv, ⟨o, h1, h2', n, h3⟩, _⟩ := I.tuple q1
          have e3 := cls_vals ra hl rv
          subst e3
          obtain ⟨oc, od, dt, sl⟩ := o
          simp only at h2' h3
          subst h2' h3
          exact PySem.W.kia_tup Z I.kIn p h1 (M.any hok h2) hx fun tk => ⟨.bl _, H, I.tok tk, rfl, q _ (.bl _)⟩
        · cases he
      · cases he
  · cases he
theorem boot_isi : bootBuiltins "isinstance" = some (.builtin "isinstance") := by decide +kernel
theorem b_is {cs us : List Nat} (M : IsM X.K (gOf X).ca cs us) (hm : X.mg "isinstance" = none) : BlM X "isinstance" .S (two (isD cs us)) := BlM.b hm boot_isi (call_is M) (ne_two ne_isD) (cal_two fun F H x y a b d Q s ra rb e q => ⟨F, x, y, a, b, d, rfl, s, ra, rb, e, fun v rv => q v F H (Grow.refl s) rv⟩)
def lenD : D → Res D
  | .lst ds => .ok (.int ds.length)
  | .tup ds => .ok (.int ds.length)
  | .scr ns => .ok (.int ns.length)
  | .str z => if z.length ≤ lim then .ok (.int z.length) else .bad
  | .dic ks _ => .ok (.int ks.length)
  | _ => .bad
mutual
theorem nested_of (I : L2.Inv X pins σ H s) (sF : Same F H) : ∀ {v : V} {d : D} {u : Value} {k : NestedKey}, Rep (gOf X) F v d → keyOf d = some k → RelV v u → NestedIs s.heap k u
  | _, _, _, _, .non, e, r => by
    simp only [keyOf, Option.some.injEq] at e
    subst e
    cases (show _ = Value.none from r)
    exact .none
  | _, _, _, _, .bl b, e, r => by
    simp only [keyOf, Option.some.injEq] at e
    subst e
    cases (show _ = Value.bool b from r)
    exact .bool rfl
  | _, _, _, _, .int i, e, r => by
    simp only [keyOf, Option.some.injEq] at e
    subst e
    obtain ⟨t, q⟩ := (show ∃ t, _ = Value.int i t from r)
    cases q
    exact .int i t
  | _, _, _, _, .str z, e, r => by
    simp only [keyOf, Option.some.injEq] at e
    subst e
    obtain ⟨t, q⟩ := (show ∃ t, _ = Value.str z t from r)
    cases q
    exact .text z t
  | _, _, _, _, .tup h ra, e, r => by
    simp only [keyOf, Option.map_eq_some_iff] at e
    obtain ⟨ks, e1, e2⟩ := e
    subst e2
    cases (show _ = Value.ref _ from r)
    obtain ⟨its, rv, ⟨o, h1, h2, n, h3⟩, _⟩ := I.tuple (Same.sqT sF h)
    exact .tup h1 h2 h3 (nested_all I sF ra e1 rv)
  | _, _, _, _, .lst _ _, e, _ => by simp [keyOf] at e
  | _, _, _, _, .scr _, e, _ => by simp [keyOf] at e
  | _, _, _, _, .dic _ _ _ _ _ _ _, e, _ => by simp [keyOf] at e
  | _, _, _, _, .obj _ _ _, e, _ => by simp [keyOf] at e
  | _, _, _, _, .exc _ _, e, _ => by simp [keyOf] at e
  | _, _, _, _, .excF _ _ _ _, e, _ => by simp [keyOf] at e
  | _, _, _, _, .cls _, e, _ => by simp [keyOf] at e
  | _, _, _, _, .ty _, e, _ => by simp [keyOf] at e
theorem nested_all (I : L2.Inv X pins σ H s) (sF : Same F H) : ∀ {vs : List V} {ds : List D} {us : List Value} {ks : List NestedKey}, RepAll (gOf X) F vs ds → keyOf.keysOf ds = some ks → Vals vs us → NestedAll s.heap ks us
  | _, _, _, _, .nil, e, rv => by
    simp only [keyOf.keysOf, Option.some.injEq] at e
    subst e
    cases rv
    exact .nil
  | _, _, _, _, .cons r t, e, rv => by
    rw [keyOf.keysOf] at e
    split at e
    · rename_i a b h1 h2
      cases e
      cases rv with
      | cons q k => exact .cons (nested_of I sF r h1 q) (nested_all I sF t h2 k)
    · cases e
end
/-- the entries' keys stand -/
theorem keys_is (I : L2.Inv X pins σ H s) (sF : Same F H) : ∀ {xs : List (NestedKey × Addr × Value)} {ks : List D}, RepAll (gOf X) F (xs.map fun x => V.ref x.2.1) ks → ks.map keyOf = xs.map (fun x => some x.1) → (∀ x ∈ xs, x.1.depth ≤ 8) → ∀ x ∈ xs, (nestedKind X.prog X.w).is s.heap x.1 x.2.1
  | [], _, _, _, _, _, h => nomatch h
  | y :: ys, _, .cons r t, e, d, x, h => by
    rw [List.map_cons, List.map_cons, List.cons.injEq] at e
    rcases List.mem_cons.mp h with z | z
    · subst z
      exact ⟨nested_of I sF r e.1 rfl, d x List.mem_cons_self⟩
    · exact keys_is I sF t e.2 (fun x hx => d x (List.mem_cons_of_mem _ hx)) x z
theorem dic_of (I : L2.Inv X pins σ H s) (sF : Same F H) {p : Addr} {o : Obj} {xs : List (NestedKey × Addr × Value)} {ks : List D} (hp : H p = some (.ext (isObj' p o))) (dd : DicO (gOf X) o xs) (h : RepAll (gOf X) F (xs.map fun x => V.ref x.2.1) ks) (e : ks.map keyOf = xs.map (fun x => some x.1)) :
    s.heap.DictOfH (nestedKind X.prog X.w) p xs := by
  obtain ⟨q, _⟩ := (show ObjOk X.prog X.w H s.heap p (.ext (isObj' p o)) from I.hok p _ hp)
  obtain ⟨ents, ep, h1, h2⟩ := dd.dat
  exact ⟨o, ents, ep, q, dd.ex, h1, h2, keys_is I sF h e dd.dp, dd.nd⟩
def rLenH (X : Cx) : List V → Hp → VK → Prop := fun xs H Q => ∃ (F : Hp) (p : Addr) (o : Obj) (es : List (NestedKey × Addr × Value)) (ks : List D), xs = [.ref p] ∧ H p = some (.ext (isObj' p o)) ∧ (p == sysModules) = false ∧ Same F H ∧ DicO (gOf X) o es ∧ RepAll (gOf X) F (es.map fun x => V.ref x.2.1) ks ∧ ks.map keyOf = es.map (fun x => some x.1) ∧ Q (.int ((es.length : Nat) : Int)) H
theorem call_lenH : CallR X (.builtin "len") (rLenH X) := by
  intro pins s σ H xs us Q I r h
  obtain ⟨F, p, o, es, ks, rfl, hp, hsys, sF, dd, hr, hk, q⟩ := h
  obtain ⟨u, rfl, rx⟩ := vals1 r
  cases (show u = Value.ref p from rx)
  have hl := dd.sz
  have h63 := line63
  exact call_len_dictH (knd := nestedKind X.prog X.w) hsys (dic_of I sF hp dd hr hk) (by omega) ⟨.int es.length, H, I.tok _, ⟨_, rfl⟩, q⟩
theorem boot_len' : bootBuiltins "len" = some (.builtin "len") := by decide +kernel
theorem b_len (hm : X.mg "len" = none) : BlM X "len" .S (one lenD) := BlM.b hm boot_len' ((call_len_seq.or call_len_str).or call_lenH) (ne_one fun d e z => by unfold lenD at z; split at z <;> (try split at z) <;> cases z) (cal_one fun F H x a d Q s ra e q => by
  unfold lenD at e
  split at e
  · cases e
    obtain ⟨p, vs, rfl, h1, r1⟩ := ra.lst s
    exact .inl (.inl ⟨p, vs, rfl, .inl (.of h1), by rw [r1.length]; exact q _ F H (Grow.refl s) (Rep.int _)⟩)
  · cases e
    obtain ⟨p, vs, rfl, h1, r1⟩ := ra.tup s
    exact .inl (.inl ⟨p, vs, rfl, .inr h1, by rw [r1.length]; exact q _ F H (Grow.refl s) (Rep.int _)⟩)
  · cases e
    obtain ⟨p, rfl, h1⟩ := ra.scr s
    exact .inl (.inl ⟨p, _, rfl, .inl h1, by rw [List.length_map]; exact q _ F H (Grow.refl s) (Rep.int _)⟩)
  · split at e <;> cases e
    rename_i h
    exact .inl (.inr ⟨_, by rw [ra.str], Nat.le_trans h lim_le, q _ F H (Grow.refl s) (Rep.int _)⟩)
  · cases e
    obtain ⟨p, o, xs, ws, rfl, h1, z1, z2, z3, z4, z5, z6⟩ := ra.dic s
    rename_i ks vs
    have hl : xs.length = ks.length := by have := congrArg List.length z5; simpa using this.symm
    exact .inr ⟨F, p, o, xs, ks, rfl, h1, z1, s, z2, z4, z5, by rw [hl]; exact q _ F H (Grow.refl s) (Rep.int _)⟩
  · cases e)
end
end Mir
namespace Mir
open PySem PySem.Spec PyProof.Rows L2
variable [Tn]
section
variable {X : Cx} {pins : List (Addr × Obj)} {σ : L2.St} {H : Hp} {s sI : Shared} {a : Addr}
theorem isExc_ok {P : Program} {w : World} {H : Hp} {h : Heap} {a C : Addr} {d : Option Addr} {oe : Obj} {vs : Array Value} (e : h.get? a = some oe) (z : Zc (.ref C) d oe) (hd : oe.data = .fields vs) : ObjOk P w H h a (.ext (isExc a C d)) :=
  ⟨⟨oe, vs, e, z.1, z.2, hd⟩, ⟨oe, e⟩, fun _ _ ⟨o, v, q, r⟩ k => ⟨o, v, k o q, r⟩⟩
end
section
variable {X : Cx} {W : Wi} {k : Kd} {C : Addr} {c : Nat} {x : Str} {p pos pos2 : Pos} {e o : Expr} {es : List Expr}
/-- an error's attribute f, by classes: its place -/
structure FldX (K : PySem.W.Frag) (ca : Nat → Addr) (f : Str) (p : Nat → Option Nat) : Prop where
  h : ∀ c i, p c = some i → (cflds c)[i]? = some f ∧ (cflds c).Nodup ∧ XfC K (ca c) ∧ PySem.W.findIn K (.ref (ca c)) f = some none
def fldE (p : Nat → Option Nat) (d : D) : Res D := match d with
  | .exc c vs => match p c with
    | some i => match vs[i]? with
      | some d => .ok d
      | none => .bad
    | none => .bad
  | _ => .bad
theorem fldE_er {p : Nat → Option Nat} {d e : D} (h : fldE p d = .er e) : False := by
  unfold fldE at h
  split at h
  · split at h
    · split at h <;> cases h
    · cases h
  · cases h
theorem fldE_ok {p : Nat → Option Nat} {d e : D} (h : fldE p d = .ok e) : ∃ c vs i, d = .exc c vs ∧ p c = some i ∧ vs[i]? = some e := by
  unfold fldE at h
  split at h
  · rename_i c vs
    split at h
    · rename_i i hp
      split at h
      · rename_i d' hv
        cases h
        exact ⟨c, vs, i, rfl, hp, hv⟩
      · cases h
    · cases h
  · cases h
theorem re_exf {f : Str} {pt : Nat → Option Nat} {fo : Env → Res D} (M : FldX X.K (gOf X).ca f pt) (ho : RE X W .S o fo) (hb : attributeBase o f X.env (eval o X.env) = eval o X.env := by rfl) : RE X W .S (.Attribute o f pos) (fun r => fo r >>= fldE pt) := by
  refine ⟨fun pins s σ H Q I ⟨H0, F0, fp, F, r, m, oo⟩ => ?_⟩
  have hw : tE (gOf X) W .S fo σ H (fun v H' => ∃ F' w a dx c ws, Same F' H' ∧ v = .ref a ∧ F' a = some (.ext (isExc a ((gOf X).ca c) (some dx))) ∧ F' dx = some (.xd ((cflds c).zip ws)) ∧ ((cflds c).zip ws).lookup f = some w ∧ XfC X.K ((gOf X).ca c) ∧ PySem.W.findIn X.K (.ref ((gOf X).ca c)) f = some none ∧ Q w H') := by
    refine ⟨H0, F0, fp, F, r, m, oo.bind fun F' H' d gr o2 v kv => ?_⟩
    cases ef : fldE pt d with
    | er x => exact (fldE_er ef).elim
    | bad => rw [ef] at o2; exact o2.elim
    | ok d' =>
      obtain ⟨c, vs, i, rfl, hp, hv⟩ := fldE_ok ef
      rw [ef] at o2
      obtain ⟨h1, h2, h3, h4⟩ := M.h c i hp
      have kv' : Rep (gOf X) F' v (.exc c vs) := kv
      cases kv' with
      | exc _ z => rw [z] at h1; cases h1
      | @excF a dx _ ws _ e1 e2 hl ra =>
        obtain ⟨w, hw, rw'⟩ := ra.get hv
        exact ⟨F', w, a, dx, c, ws, gr.sub, rfl, e1, e2, lookup_zip h2 h1 hw, h3, h4, o2 F' H' (Grow.refl gr.sub) w rw'⟩
  refine attr_of hb (thn (ho.run pins s σ H _ I hw) fun u s1 ⟨x, H1, I1, rx, F', w, a, dx, c, ws, sF, ex, e1, e2, l, T, hno, q⟩ => ?_)
  subst ex
  obtain rfl : u = Value.ref a := rx
  obtain ⟨⟨oe, vs, ha, hc, hdd, hd⟩, _⟩ := (show ObjOk X.prog X.w H1 s1.heap a (.ext (isExc a ((gOf X).ca c) (some dx))) from I1.hok a _ (sF _ _ e1))
  obtain ⟨mA, hns, hr⟩ := (show ObjOk X.prog X.w H1 s1.heap dx (.xd ((cflds c).zip ws)) from I1.hok dx _ (sF _ _ e2))
  obtain ⟨od, ho2, hl⟩ := lookIn_ns hns
  obtain ⟨u, hu, ru⟩ := RelO.some_of (v := w) (o := mA f) (by rw [← l]; exact hr f)
  have J : PySem.W.InstAt s1.heap a oe ((gOf X).ca c) (some od) := ⟨ha, hc, by unfold PySem.W.notCls; rw [hd] <;> rfl, by rw [hdd]; exact ho2⟩
  exact HandSPX.exc_get I1.kIn J T.ga T.gg T.exC (PySem.W.findObj_own T.hdC hno rfl (by rw [hl, hu])) (handed_of ru) ⟨w, H1, I1.tok _, ru, q⟩
end
section
variable {X : Cx} {pins : List (Addr × Obj)} {σ : L2.St} {H : Hp} {s sI : Shared} {a : Addr}
/-- a suite's context, the error tracked -/
theorem Inv.suit (I : L2.Inv X pins σ H s) {o : HO} {oe : Obj} {vs : Array Value} (hx : X.ex = []) (J : L2.Inv X pins σ H sI) (nI : sI.heap.get? a = none) (ha : s.heap.get? a = some oe) (hd : oe.data = .fields vs) (na : H a = none) (nL : a ≠ X.env.locals) (new : ObjOk X.prog X.w (upd H a o) s.heap a o) :
    L2.Inv (X.suite a (X.pn ++ pins)) [] σ (upd H a o) s where
  ok := I.ok.suite _ _
  os := I.os
  bare := I.bare
  base := {
    keep := I.base.keep
    slot := I.base.slot
    free := fun b u e n hb => by
      rw [upd_ne ?_]
      · exact I.base.free b u e n hb
      · rintro rfl
        obtain ⟨o', e'⟩ := J.base.there b u e (by show b ∉ X.ex; rw [hx]; simp)
        rw [nI] at e'
        cases e'
    there := I.base.there
    tups := fun b xs e => by rw [upd_ne (ne_of_none (I.base.tups b xs e) na)]; exact I.base.tups b xs e
    frzs := fun b u xs e => by rw [upd_ne (ne_of_none (I.base.frzs b u xs e) na)]; exact I.base.frzs b u xs e
    tbls := fun b ps e => by
      obtain ⟨more, q⟩ := I.base.tbls b ps e
      exact ⟨more, by rw [upd_ne (ne_of_none q na)]; exact q⟩ }
  loc := I.loc
  cell := I.cell
  free := by rw [upd_ne (Ne.symm nL)]; exact I.free
  freeC := fun x c e => by
    rw [upd_ne ?_]
    · exact I.freeC x c e
    · rintro rfl
      obtain ⟨v, o', q1, q2⟩ := I.cell x c e
      rw [ha] at q1
      cases q1
      rw [hd] at q2
      cases q2
  pin := fun p hp => by
    have hp' : p ∈ X.pn ++ pins := by rw [List.append_nil] at hp; exact hp
    obtain ⟨q1, q2, q3⟩ := I.pin p hp'
    refine ⟨q1, ?_, q3⟩
    rw [upd_ne ?_]
    · exact q2
    · rintro rfl
      have z := (J.pin p hp').1
      rw [nI] at z
      cases z
  hok := I.hok.laidN (fun _ _ z => z) na new
  len := I.len
theorem Inv.unsuit {pn' : List (Addr × Obj)} {H' : Hp} (I : L2.Inv (X.suite a (X.pn ++ pins)) pn' σ H' s) (ok : X.Ok) : L2.Inv X pins σ H' s :=
  ⟨ok, I.os, I.bare, I.base, I.loc, I.cell, I.free, I.freeC, fun p hp => I.pin p (List.mem_append_left _ hp), I.hok, I.len⟩
end
/-- an except clause: its class, its name's slot -/
structure Cl where
  c : Value
  i : Option Nat
  t : TS
def clEnds (D : Ends) : Option Nat → Ends
  | none => D
  | some i => { nx := fun σ' H' => D.nx (σ'.set i none) H', rt := D.rt, bk := fun σ' H' => D.bk (σ'.set i none) H', ct := fun σ' H' => D.ct (σ'.set i none) H' }
def clSt (σ : L2.St) (a : Addr) : Option Nat → L2.St
  | none => σ
  | some i => σ.set i (some (.ref a))
def wTry (K : PySem.W.Frag) (Wout : WX) (D : Ends) : List Cl → WX
  | [] => Wout
  | q :: r => fun cls d σ H => ∃ b, PySem.W.exmOne K cls q.c = some b ∧ (b = true → ∃ C, cls = .ref C ∧ ∀ a, H a = none → q.t (clEnds D q.i) (clSt σ a q.i) (upd H a (.ext (isExc a C d)))) ∧ (b = false → wTry K Wout D r cls d σ H)
inductive ClsOk (X : Cx) : List ExceptHandler → List Cl → Prop
  | nil : ClsOk X [] []
  | one {x : Str} {q : Cl} {b₀ : Stmt} {suite : List Stmt} {np pos' : Pos} {hds : List ExceptHandler} {l : List Cl} (hc : Names X x q.c) (hi : q.i = none)
      (hsu : ∀ (a : Addr) (pn : List (Addr × Obj)), PSs (X.suite a pn) (b₀ :: suite) q.t) (r : ClsOk X hds l) : ClsOk X (.ExceptHandler (some (.Name x np)) none (b₀ :: suite) pos' :: hds) (q :: l)
  | as {x n : Str} {i : Nat} {q : Cl} {b₀ : Stmt} {suite : List Stmt} {np pos' : Pos} {hds : List ExceptHandler} {l : List Cl} (hc : Names X x q.c) (hi : q.i = some i) (hn : X.N[i]? = some n) (hln : X.env.kindOf n = some .local)
      (hsu : ∀ (a : Addr) (pn : List (Addr × Obj)), PSs (X.suite a pn) (b₀ :: suite) q.t) (r : ClsOk X hds l) : ClsOk X (.ExceptHandler (some (.Name x np)) (some n) (b₀ :: suite) pos' :: hds) (q :: l)
section
variable {X : Cx} {body : List Stmt} {h₀ : ExceptHandler} {hds : List ExceptHandler} {l : List Cl} {pos : Pos} {tb : WX → TS} {Wout : WX}
theorem ps_try (hs : X.stack = X.env :: X.outer) (hf : X.env.frame = some X.env.locals) (hx : X.ex = []) (hN : X.N.Nodup) (tk : Takes X Wout)
    (hb : ∀ (W : WX) (pn : List (Addr × Obj)) (xe : Value → Shared → Prop), Takes (X.tr pn xe) W → PassesOwn (model X.prog X.w) X.A X.env xe → PSs (X.tr pn xe) body (tb W))
    (hh : ClsOk X (h₀ :: hds) l) : PS X (.Try body (h₀ :: hds) [] [] pos) (fun D σ H => tb (wTry X.K Wout D l) D σ H) := by
  refine ⟨fun pins s σ H D I h => ?_⟩
  have ok := I.ok
  have hfr : X.A.frames = some (X.env :: X.outer) := by rw [ok.frames, hs]
  refine wpAny_Try_except ?_
  refine wpAny_mono ((hb (wTry X.K Wout D l) (X.pn ++ pins) (fun e s₁ => wpAny (model X.prog X.w) X.A (noteFrame e X.env) (fun _ s₂ => wpAny (model X.prog X.w) X.A (setFlight e none) (fun _ s₃ =>
    wpAny (model X.prog X.w) X.A (handleBy e X.env (h₀ :: hds)) (SP X pins D) X.xe s₃) X.xe s₂) X.xe s₁) (fun u s' xx => ?_) PassesOwn.looking).run [] s σ H D (I.toTry _) h) (fun f s1 hsp => ?_) (fun e s1 he => he)
  · obtain ⟨a, B, sI, pins', σ', H', cls, d, rfl, J', nb, up, sky, na, os, ag, w⟩ := xx
    have J : L2.Inv X pins σ' H' sI := J'.ofTry ok
    have sky' : Sky B (X.env :: X.outer) a (Zc cls d) X.env.locals s'.heap := by rw [← hs]; exact sky
    show wpAny (model X.prog X.w) X.A (noteFrame (.ref a) X.env) _ _ _
    refine Sky.land Zc.steady hfr hf sky' fun h3 fl3 up3 => ?_
    have J3 : L2.Inv X pins σ' H' { s' with heap := h3 } := J.landed nb fl3.1 (up.trans up3) os ag
    obtain ⟨oe3, vs3, he3, hz3, hd3⟩ := fl3.there
    have notFr : ∀ {h : Heap} {o : Obj} {vs : Array Value}, h.FunFrames B (X.env :: X.outer) → h.get? a = some o → o.data = .fields vs → a ∉ frs (X.env :: X.outer) := fun {h o vs} ff e dd hm => by
      obtain ⟨_, o', e', hnf⟩ := ff.mem hm
      rw [e] at e'; cases e'
      exact hnf _ dd
    have nfr := notFr fl3.2.2.1 he3 hd3
    have nL : a ≠ X.env.locals := fun z => nfr (List.mem_filterMap.mpr ⟨X.env, List.mem_cons_self, by rw [hf, z]⟩)
    have nF : a ∉ X.fs := fun hm => by
      obtain ⟨e, he, q⟩ := List.mem_filterMap.mp hm
      exact nfr (List.mem_filterMap.mpr ⟨e, List.mem_cons_of_mem _ he, q⟩)
    have nI : sI.heap.get? a = none := by
      cases q : sI.heap.get? a with
      | none => rfl
      | some o =>
        have z := nb a o q (by rw [hs]; exact nfr)
        have z2 : B.get? a = none := fl3.2.1
        rw [z2] at z
        cases z
    have S3 := J3.suite he3 hd3 na nL nF
    have go : ∀ {hds' : List ExceptHandler} {l' : List Cl}, ClsOk X hds' l' → wTry X.K Wout D l' cls d σ' H' →
        wpAny (model X.prog X.w) X.A (handleBy (.ref a) X.env hds') (SP X pins D) X.xe { s' with heap := h3 } := by
      intro hds' l' hk
      have test0 : ∀ {x : Str} {c : Value} {np : Pos}, Names X x c → ∀ {Q : Value → Shared → Prop} {E : Value → Shared → Prop}, Q c { s' with heap := h3 } → wpAny (model X.prog X.w) (X.A.mark (some (.ref a))) (eval (.Name x np) X.env) Q E { s' with heap := h3 } := fun {x c np} hc {Q E} q => by
        obtain ⟨hg, hdbg, hm | ⟨hm, hv, hnn⟩⟩ := hc
        · exact ld_glob (X := X.suite a ((a, oe3) :: (X.pn ++ pins))) S3 hg hm q hdbg
        · exact ld_blt (X := X.suite a ((a, oe3) :: (X.pn ++ pins))) S3 hg hm hv q hnn hdbg
      have LT : PySem.W.Looks (model X.prog X.w) h3 (typeOf (.ref a)) cls := fun A Q E s k q => wpAny_typeOf_ref (k _ _ he3) (by rw [hz3.1]; exact q)
      induction hk with
      | nil =>
        intro w
        refine wpAny_handleBy_nil ?_
        obtain ⟨k1, k2, k3, oe, vs, T, oT, ts', he, hz, hd, h1, hr⟩ := id fl3
        unfold PySem.passOn
        refine wpAny_bind (wpAny_field he hd h1 ?_)
        rw [if_neg (show ¬ ((Value.ref T == Value.none) = true) from by simp)]
        have fin : wpAny (model X.prog X.w) X.A (setFlight (.ref a) X.env.frame) (fun _ s4 => wpAny (model X.prog X.w) X.A (throw (.ref a) : Sem Flow) (SP X pins D) X.xe s4) X.xe { s' with heap := h3 } := by
          rw [hf]
          refine HandSPX.setFlight_upZ fl3 fun h4 hh4 up4 => wpAny_throw (tk _ _ ?_)
          exact ⟨a, B, sI, pins, σ', H', cls, d, rfl, J, nb, (up.trans up3).trans up4, .inr (.inr (by rw [hs]; exact hh4)), na, os, ag, w⟩
        first
          | exact wpAny_bind (wpAny_pure (wpAny_bind fin))
          | exact wpAny_bind fin
      | @one x q b₀ suite np pos' hds2 l2 hc hi hsu r ih =>
        intro w
        obtain ⟨b, hb1, hyes, hno⟩ := w
        refine wpAny_handleBy_cons (codeAny_handlers_test ?_) (by intro q; cases q)
        have LM := PySem.W.exm_one (M := model X.prog X.w) (J3.kIn) LT hb1
        refine test0 hc (LM.here ?_)
        cases b with
        | true =>
          obtain ⟨C, rfl, hy⟩ := hyes rfl
          refine codeAny_handlers_suite ?_
          refine HandSPX.lands_againZ fl3 fun h4 fl4 up4 => ?_
          have J4 : L2.Inv X pins σ' H' { s' with heap := h4 } := J.landed nb fl4.1 ((up.trans up3).trans up4) os ag
          obtain ⟨oe4, vs4, he4, hz4, hd4⟩ := fl4.there
          have S4 := Mir.Inv.suit (o := .ext (isExc a C d)) J4 hx J nI he4 hd4 na nL (isExc_ok he4 hz4 hd4)
          have hy' := hy a na
          rw [hi] at hy'
          refine wpAny_mono ((hsu a (X.pn ++ pins)).run [] _ _ _ _ S4 hy') (fun f s6 hsp => ?_) (fun _ _ z => False.elim z)
          cases f with
          | next =>
            obtain ⟨σ6, H6, S6, q6⟩ := hsp
            exact ⟨_, _, Inv.unsuit S6 ok, q6⟩
          | brk =>
            obtain ⟨σ6, H6, S6, q6⟩ := hsp
            exact ⟨_, _, Inv.unsuit S6 ok, q6⟩
          | cont =>
            obtain ⟨σ6, H6, S6, q6⟩ := hsp
            exact ⟨_, _, Inv.unsuit S6 ok, q6⟩
          | ret u =>
            obtain ⟨v6, σ6, H6, S6, r6, q6⟩ := hsp
            exact ⟨_, _, _, Inv.unsuit S6 ok, r6, q6⟩
        | false =>
          show wpAny _ X.A (handleBy (.ref a) X.env hds2) _ _ _
          exact ih (hno rfl)
      | @as x n i q b₀ suite np pos' hds2 l2 hc hi hn hln hsu r ih =>
        intro w
        obtain ⟨b, hb1, hyes, hno⟩ := w
        refine wpAny_handleBy_cons (codeAny_handlers_test ?_) (by intro q; cases q)
        have LM := PySem.W.exm_one (M := model X.prog X.w) (J3.kIn) LT hb1
        refine test0 hc (LM.here ?_)
        cases b with
        | true =>
          obtain ⟨C, rfl, hy⟩ := hyes rfl
          refine codeAny_handlers_suite_as ?_
          refine HandSPX.lands_againZ fl3 fun h4 fl4 up4 => ?_
          have J4 : L2.Inv X pins σ' H' { s' with heap := h4 } := J.landed nb fl4.1 ((up.trans up3).trans up4) os ag
          obtain ⟨oe4, vs4, he4, hz4, hd4⟩ := fl4.there
          have S4 := Mir.Inv.suit (o := .ext (isExc a C d)) J4 hx J nI he4 hd4 na nL (isExc_ok he4 hz4 hd4)
          have hloc : Loc X.env.scope n := .inl hln
          have hy' := hy a na
          rw [hi] at hy'
          refine store_ok (X := X.suite a (X.pn ++ pins)) (v := .ref a) S4 hN hn hloc rfl (fun s5 S5 => ?_) (.inr hln)
          refine wpAny_mono ((hsu a (X.pn ++ pins)).run [] s5 _ _ _ S5 hy') (fun f s6 hsp => ?_) (fun _ _ z => False.elim z)
          have end_ : ∀ {σ6 : L2.St} {H6 : Hp} {Q : Shared → Prop}, L2.Inv (X.suite a (X.pn ++ pins)) [] σ6 H6 s6 → (∀ s7, L2.Inv X pins (σ6.set i none) H6 s7 → Q s7) →
              wpAny (model X.prog X.w) X.A (do bindName X.env n .none; unbindBehindTheSuite X.env n pos') (fun _ s7 => Q s7) X.xe s6 := fun {σ6 H6 Q} S6 hq => gone_ok (Inv.unsuit S6 ok) hN hn hln hq
          cases f with
          | next =>
            obtain ⟨σ6, H6, S6, q6⟩ := hsp
            exact end_ S6 fun s7 J7 => ⟨_, _, J7, q6⟩
          | brk =>
            obtain ⟨σ6, H6, S6, q6⟩ := hsp
            exact end_ S6 fun s7 J7 => ⟨_, _, J7, q6⟩
          | cont =>
            obtain ⟨σ6, H6, S6, q6⟩ := hsp
            exact end_ S6 fun s7 J7 => ⟨_, _, J7, q6⟩
          | ret u =>
            obtain ⟨v6, σ6, H6, S6, r6, q6⟩ := hsp
            exact end_ S6 fun s7 J7 => ⟨_, _, _, J7, r6, q6⟩
        | false =>
          show wpAny _ X.A (handleBy (.ref a) X.env hds2) _ _ _
          exact ih (hno rfl)
    exact go hh w
  · cases f with
    | next =>
      obtain ⟨σ', H', J', q⟩ := hsp
      exact wpAny_execs_nil ⟨σ', H', J'.ofTry ok, q⟩
    | brk =>
      obtain ⟨σ', H', J', q⟩ := hsp
      exact ⟨σ', H', J'.ofTry ok, q⟩
    | cont =>
      obtain ⟨σ', H', J', q⟩ := hsp
      exact ⟨σ', H', J'.ofTry ok, q⟩
    | ret u =>
      obtain ⟨v, σ', H', J', r, q⟩ := hsp
      exact ⟨v, σ', H', J'.ofTry ok, r, q⟩
end
theorem MS.unset {G : GC} {J : L2.St → Prop} {H0 F0 F H : Hp} {fp : Nat → List Addr} {σ : L2.St} {r : Env} (m : MS G J H0 F0 fp F σ H r) (i : Nat) (hJ : ∀ σ v, J σ → J (σ.set i v)) : MS G J H0 F0 fp F (σ.set i none) H (r.set i .un) where
  jo := hJ _ _ m.jo
  s0 := m.s0
  t0 := m.t0
  f0 := m.f0
  sub := m.sub
  new := m.new
  len := by simpa using m.len
  sh := fun j e h => by
    rcases get_set_slot h with ⟨_, x, _⟩ | ⟨ne, h⟩
    · cases x
    · rw [List.getElem?_set_ne ne]
      exact m.sh j e h
  ow := fun j s e h => by
    rcases get_set_slot h with ⟨_, x, _⟩ | ⟨ne, h⟩
    · cases x
    · rw [List.getElem?_set_ne ne]
      exact m.ow j s e h
  ap := fun j k s t d e n h1 h2 => by
    rcases get_set_slot h1 with ⟨_, x, _⟩ | ⟨_, h1⟩
    · cases x
    · rcases get_set_slot h2 with ⟨_, x, _⟩ | ⟨_, h2⟩
      · cases x
      · exact m.ap j k s t d e n h1 h2
/-- an except clause over data: the class, the name's slot, the suite -/
structure ClD where
  u : Nat
  i : Option Nat
  g : Env → Oc
def bindI (d : D) (r : Env) : Option Nat → Env
  | none => r
  | some i => r.set i (.sh d)
def clrI (i : Option Nat) (r : Env) : Env := match i with
  | none => r
  | some i => r.set i .un
def closeI (i : Option Nat) : Oc → Oc
  | .nx r => .nx (clrI i r)
  | .bk r => .bk (clrI i r)
  | .ct r => .ct (clrI i r)
  | .rt d => .rt d
  | _ => .bad
def catchD (cs us : List Nat) (e : D) (r : Env) : List ClD → Oc
  | [] => .er e r
  | q :: l => match e with
    | .exc c vs => if cs.contains c = true ∧ us.contains q.u = true then (if overC c q.u = true then closeI q.i (q.g (bindI (.exc c vs) r q.i)) else catchD cs us e r l) else .bad
    | _ => .bad
def tryD (cs us : List Nat) (gb : Env → Oc) (l : List ClD) (r : Env) : Oc := match gb r with
  | .er e r' => catchD cs us e r' l
  | o => o
/-- errors of cs may come where classes of us are named -/
structure CtM (K : PySem.W.Frag) (ca : Nat → Addr) (cs us : List Nat) : Prop where
  h : ∀ c ∈ cs, ∀ u ∈ us, PySem.W.exmOne K (.ref (ca c)) (.ref (ca u)) = some (overC c u)
abbrev WF (J : L2.St → Prop) : Wi := ⟨fun _ _ _ _ => False, J⟩
abbrev toCl (G : GC) (J : L2.St → Prop) (k : Kd) (q : ClD) : Cl := ⟨.ref (G.ca q.u), q.i, tS G (WF J) k q.g⟩
theorem catch_ok {G : GC} {W : Wi} {k : Kd} {cs us : List Nat} {H0 F0 F H : Hp} {fp : Nat → List Addr} {σ : L2.St} {r : Env} {DE : Ends} {e : D} {cls : Value} {dd : Option Addr} (M : CtM G.K G.ca cs us) (m : MS G W.J H0 F0 fp F σ H r) (ex : ExcIs G F cls dd e) :
    ∀ (l : List ClD), (∀ q ∈ l, ∀ i, q.i = some i → ∀ σ v, W.J σ → W.J (σ.set i v)) → OutS G W k H0 F0 F DE (catchD cs us e r l) → wTry G.K W.w DE (l.map (toCl G W.J k)) cls dd σ H
  | [], _, o => o fp F σ H cls dd (Same.refl _) m ex
  | q :: l, hJ, o => by
    obtain ⟨c, ws, vs, rfl, rfl, ra, hx⟩ := ex
    rw [catchD] at o
    split at o
    · rename_i hc
      obtain ⟨h1, h2⟩ := hc
      have hm := M.h c (by simpa using h1) q.u (by simpa using h2)
      refine ⟨overC c q.u, hm, fun hb => ?_, fun hb => ?_⟩
      · rw [if_pos hb] at o
        refine ⟨_, rfl, fun a na => ?_⟩
        have gr : Grow F H (upd F a (.ext (isExc a (G.ca c) dd))) (upd H a (.ext (isExc a (G.ca c) dd))) := Grow.mk1 m.sub na
        have m1 := m.grow gr
        have rv : Rep G (upd F a (.ext (isExc a (G.ca c) dd))) (.ref a) (.exc c vs) := by
          rcases hx with ⟨rfl, z, rfl⟩ | ⟨dx, rfl, e2, hl⟩
          · cases ra
            exact .exc upd_same z
          · exact .excF upd_same (gr.f _ _ e2) hl (ra.mono gr.f)
        have o' : OutS G W k H0 F0 (upd F a (.ext (isExc a (G.ca c) dd))) DE (closeI q.i (q.g (bindI (.exc c vs) r q.i))) := OutS.same o gr.f
        have m2 : MS G W.J H0 F0 fp (upd F a (.ext (isExc a (G.ca c) dd))) (clSt σ a q.i) (upd H a (.ext (isExc a (G.ca c) dd))) (bindI (.exc c vs) r q.i) := by
          cases hi : q.i with
          | none => exact m1
          | some i => exact m1.setS i rv (hJ q List.mem_cons_self i hi)
        refine ⟨H0, F0, fp, _, _, m2, ?_⟩
        have clr : ∀ {fp2 F2 σ2 H2 r2}, MS G W.J H0 F0 fp2 F2 σ2 H2 r2 → ∀ i, q.i = some i → MS G W.J H0 F0 fp2 F2 (σ2.set i none) H2 (r2.set i .un) := fun m3 i hi => m3.unset i (hJ q List.mem_cons_self i hi)
        cases hg : q.g (bindI (.exc c vs) r q.i) with
        | nx r2 =>
          rw [hg] at o'
          intro fp2 F2 σ2 H2 s2 m3
          show (clEnds DE q.i).nx σ2 H2
          cases hi : q.i with
          | none => rw [hi] at o'; exact o' fp2 F2 σ2 H2 s2 m3
          | some i => rw [hi] at o'; exact o' fp2 F2 _ H2 s2 (clr m3 i hi)
        | bk r2 =>
          rw [hg] at o'
          intro fp2 F2 σ2 H2 s2 m3
          show (clEnds DE q.i).bk σ2 H2
          cases hi : q.i with
          | none => rw [hi] at o'; exact o' fp2 F2 σ2 H2 s2 m3
          | some i => rw [hi] at o'; exact o' fp2 F2 _ H2 s2 (clr m3 i hi)
        | ct r2 =>
          rw [hg] at o'
          intro fp2 F2 σ2 H2 s2 m3
          show (clEnds DE q.i).ct σ2 H2
          cases hi : q.i with
          | none => rw [hi] at o'; exact o' fp2 F2 σ2 H2 s2 m3
          | some i => rw [hi] at o'; exact o' fp2 F2 _ H2 s2 (clr m3 i hi)
        | rt d =>
          rw [hg] at o'
          intro F2 H2 v s2 g2 kv
          show (clEnds DE q.i).rt v H2
          cases hi : q.i with
          | none => rw [hi] at o'; exact o' F2 H2 v s2 g2 kv
          | some i => rw [hi] at o'; exact o' F2 H2 v s2 g2 kv
        | er x r2 => rw [hg] at o'; exact o'.elim
        | bad => rw [hg] at o'; exact o'.elim
      · rw [if_neg (by rw [hb]; exact Bool.false_ne_true)] at o
        exact catch_ok M m ⟨c, ws, vs, rfl, rfl, ra, hx⟩ l (fun q hq => hJ q (List.mem_cons_of_mem _ hq)) o
    · exact o.elim
inductive ClsD (X : Cx) (J : L2.St → Prop) (k : Kd) : List ExceptHandler → List ClD → Prop
  | nil : ClsD X J k [] []
  | one {x : Str} {q : ClD} {b₀ : Stmt} {suite : List Stmt} {np pos' : Pos} {hds : List ExceptHandler} {l : List ClD} (hc : Names X x (.ref ((gOf X).ca q.u))) (hi : q.i = none)
      (hsu : ∀ (a : Addr) (pn : List (Addr × Obj)), RSs (X.suite a pn) (WF J) k (b₀ :: suite) q.g) (r : ClsD X J k hds l) : ClsD X J k (.ExceptHandler (some (.Name x np)) none (b₀ :: suite) pos' :: hds) (q :: l)
  | as {x n : Str} {i : Nat} {q : ClD} {b₀ : Stmt} {suite : List Stmt} {np pos' : Pos} {hds : List ExceptHandler} {l : List ClD} (hc : Names X x (.ref ((gOf X).ca q.u))) (hi : q.i = some i) (hn : X.N[i]? = some n) (hln : X.env.kindOf n = some .local) (hJ : ∀ σ v, J σ → J (σ.set i v))
      (hsu : ∀ (a : Addr) (pn : List (Addr × Obj)), RSs (X.suite a pn) (WF J) k (b₀ :: suite) q.g) (r : ClsD X J k hds l) : ClsD X J k (.ExceptHandler (some (.Name x np)) (some n) (b₀ :: suite) pos' :: hds) (q :: l)
theorem ClsD.ok {X : Cx} {J : L2.St → Prop} {k : Kd} : ∀ {hds : List ExceptHandler} {l : List ClD}, ClsD X J k hds l → ClsOk X hds (l.map (toCl (gOf X) J k))
  | _, _, .nil => .nil
  | _, _, .one hc hi hsu r => .one (q := toCl (gOf X) J k _) hc hi hsu (ClsD.ok r)
  | _, _, .as hc hi hn hln _ hsu r => .as (q := toCl (gOf X) J k _) hc hi hn hln hsu (ClsD.ok r)
theorem ClsD.hJ {X : Cx} {J : L2.St → Prop} {k : Kd} : ∀ {hds : List ExceptHandler} {l : List ClD}, ClsD X J k hds l → ∀ q ∈ l, ∀ i, q.i = some i → ∀ σ v, J σ → J (σ.set i v)
  | _, _, .nil, _, h => nomatch h
  | _, _, .one _ hi _ r, q, h => (List.mem_cons.mp h).elim (fun e i z => by subst e; rw [hi] at z; cases z) fun h => ClsD.hJ r q h
  | _, _, .as _ hi _ _ hj _ r, q, h => (List.mem_cons.mp h).elim (fun e i z => by subst e; rw [hi] at z; cases z; exact hj) fun h => ClsD.hJ r q h
theorem rs_try {X : Cx} {W : Wi} {k : Kd} {cs us : List Nat} {body : List Stmt} {h₀ : ExceptHandler} {hds : List ExceptHandler} {l : List ClD} {pos : Pos} {gb : Env → Oc} (M : CtM X.K (gOf X).ca cs us) (hN : X.N.Nodup) (tk : Takes X W.w)
    (hb : ∀ (W' : WX) (pn : List (Addr × Obj)) (xe : Value → Shared → Prop), Takes (X.tr pn xe) W' → PassesOwn (model X.prog X.w) X.A X.env xe → RSs (X.tr pn xe) ⟨W', W.J⟩ k body gb)
    (hh : ClsD X W.J k (h₀ :: hds) l) (hs : X.stack = X.env :: X.outer := by rfl) (hf : X.env.frame = some X.env.locals := by rfl) (hx : X.ex = [] := by rfl) : RS X W k (.Try body (h₀ :: hds) [] [] pos) (tryD cs us gb l) :=
  (ps_try (tb := fun W' => tS (gOf X) ⟨W', W.J⟩ k gb) hs hf hx hN tk hb hh.ok).imp fun D σ H ⟨H0, F0, fp, F, r, m, o⟩ => ⟨H0, F0, fp, F, r, m, by
    unfold tryD at o
    cases e : gb r with
    | er x r' =>
      rw [e] at o
      exact fun fp' F' σ' H' cls dd s m' ex => catch_ok (W := W) M m' ex l hh.hJ (OutS.same (show OutS (gOf X) W k H0 F0 F D (catchD cs us x r' l) from o) s)
    | nx r' => rw [e] at o; exact o
    | bk r' => rw [e] at o; exact o
    | ct r' => rw [e] at o; exact o
    | rt d => rw [e] at o; exact o
    | bad => rw [e] at o; exact o⟩
theorem names_own {X : Cx} {u : Nat} {C : Addr} {x : Str} (hm : X.mg (cname u) = some (.ref C)) (hx : x = cname u := by rfl) (hg : Gl X x := by rfl) (hd : (x == ("__debug__" : Str)) = false := by decide) : Names X x (.ref ((gOf X).ca u)) := by
  subst hx
  exact ⟨hg, hd, .inl (by rw [ca_of (G := gOf X) hm]; exact hm)⟩
end Mir
namespace Mir
open PySem PySem.Spec PyProof.Rows L2
variable [Tn]
def enumL (ds : List D) : List D := ds.zipIdx.map fun p => .tup [.int (p.2 : Nat), p.1]
theorem enumL_get {ds : List D} {i : Nat} {d : D} (h : ds[i]? = some d) : (enumL ds)[i]? = some (.tup [.int (i : Nat), d]) := by
  unfold enumL
  rw [List.getElem?_map, List.getElem?_zipIdx, h]
  simp
theorem enumL_len (ds : List D) : (enumL ds).length = ds.length := by simp [enumL]
section
variable {X : Cx} {W : Wi} {e : Expr} {p pos tpos : Pos} {elts : List Expr} {kk : Nat}
theorem ints_rep {G : GC} {F : Hp} : ∀ ns : List Int, RepAll G F (ns.map V.int) (ns.map D.int)
  | [] => .nil
  | n :: ns => .cons (.int n) (ints_rep ns)
end
end Mir
namespace Mir
open PySem PySem.Spec PyProof.Rows L2
variable [Tn]
def nameG (i : Nat) (d : D) (r : Env) : Res Env := .ok (r.set i (.sh d))
def nilG : List D → Env → Res Env := fun ds r => match ds with
  | [] => .ok r
  | _ => .bad
def consG (g : D → Env → Res Env) (gs : List D → Env → Res Env) : List D → Env → Res Env := fun ds r => match ds with
  | d :: ds => g d r >>= fun r' => gs ds r'
  | [] => .bad
def tupG (n : Nat) (gs : List D → Env → Res Env) : D → Env → Res Env := fun d r => match d with
  | .tup ds => if ds.length = n then gs ds r else .bad
  | _ => .bad
@[simp] theorem nameG_eq (i : Nat) (d : D) (r : Env) : nameG i d r = .ok (r.set i (.sh d)) := rfl
@[simp] theorem nilG_nil (r : Env) : nilG [] r = .ok r := rfl
@[simp] theorem consG_cons (g : D → Env → Res Env) (gs : List D → Env → Res Env) (d : D) (ds : List D) (r : Env) : consG g gs (d :: ds) r = (g d r >>= fun r' => gs ds r') := rfl
@[simp] theorem tupG_tup (n : Nat) (gs : List D → Env → Res Env) (ds : List D) (r : Env) : tupG n gs (.tup ds) r = if ds.length = n then gs ds r else .bad := rfl
section
variable {X : Cx} {J : L2.St → Prop}
theorem gN (i : Nat) {x : Str} {pos : Pos} (hN : X.N.Nodup) (hJ : ∀ σ v, J σ → J (σ.set i v) := by first | exact fun _ _ h => h | exact jset (by decide) | exact jfn (by decide) | exact jb (by decide)) (hi : X.N[i]? = some x := by rfl) (hx : Loc X.env.scope x := by first | exact Or.inl rfl | exact Or.inr rfl) (hf : X.fn x = true ∨ X.env.scope.names.lookup x = some .local := by first | exact .inl rfl | exact .inr rfl) :
    RG X J (.Name x pos) (nameG i) := rg_name i hN hJ hi hx hf
theorem gs0 : RGs X J [] nilG := rgs_nil
theorem gsc {e : Expr} {es : List Expr} {g : D → Env → Res Env} {gs : List D → Env → Res Env} (h1 : RG X J e g) (h2 : RGs X J es gs) (hs : (assignEach (e :: es) X.env).map (·.2) = assign e X.env :: (assignEach es X.env).map (·.2) := by rfl) : RGs X J (e :: es) (consG g gs) := rgs_cons h1 h2 hs
theorem gT {es : List Expr} {kk : Nat} {pos : Pos} {gs : List D → Env → Res Env} (n : Nat) (hc : X.calm = true) (h : RGs X J es gs) (hn : (assignEach es X.env).length = n := by rfl) (hst : (assignEach es X.env).findIdx? (·.1) = none := by rfl) :
    RG X J (.Tuple es kk pos) (tupG n gs) := rg_tup hc h hn hst
end
/-- the attribute f's place in the classes cs -/
def plOf (cs : List Nat) (f : Str) (c : Nat) : Option Nat := if cs.contains c = true then (cflds c).idxOf? f else none
theorem plOf_some {cs : List Nat} {f : Str} {c i : Nat} (h : plOf cs f c = some i) : c ∈ cs ∧ (cflds c)[i]? = some f := by
  unfold plOf at h
  split at h
  · rename_i hc
    refine ⟨by simpa using hc, ?_⟩
    rw [List.idxOf?_eq_some_iff] at h
    obtain ⟨h1, h2, _⟩ := h
    rw [List.getElem?_eq_getElem h1]
    exact congrArg some h2
  · cases h
theorem cflds_nd (c : Nat) : (cflds c).Nodup := by
  unfold cflds
  split <;> decide +kernel
theorem fldM_of {K : PySem.W.Frag} {ca : Nat → Addr} {f : Str} {cs : List Nat} (h : ∀ c ∈ cs, Cls K (ca c) ∧ NoAttr K (ca c) f) : FldM K ca f (plOf cs f) :=
  ⟨fun c i e => let ⟨h1, h2⟩ := plOf_some e; ⟨h2, cflds_nd c, (h c h1).1, (h c h1).2⟩⟩
theorem fldX_of {K : PySem.W.Frag} {ca : Nat → Addr} {f : Str} {cs : List Nat} (h : ∀ c ∈ cs, XfC K (ca c) ∧ PySem.W.findIn K (.ref (ca c)) f = some none) : FldX K ca f (plOf cs f) :=
  ⟨fun c i e => let ⟨h1, h2⟩ := plOf_some e; ⟨h2, cflds_nd c, (h c h1).1, (h c h1).2⟩⟩
def objB (K : PySem.W.Frag) (C : Addr) : Bool := PySem.W.plainGet K C Str.empty && (PySem.W.hasDictIn K C && (PySem.W.plainOver K C && (decide (PySem.W.findIn K (.ref C) "__setattr__" = some (some (.builtin "object.__setattr__"))) && (decide (PySem.W.findIn K (.ref C) "__class__" = some (some (.builtin "object.__class__"))) &&
  (decide (PySem.W.specialIn K (.builtin "object.__class__") "__get__" = some (some (.builtin "getset_descriptor.__get__"))) && (decide (PySem.W.takesIn K (.builtin "object.__class__") = some true) && decide (PySem.W.mroIn K C (.type "object") = some true)))))))
theorem objB_ok {K : PySem.W.Frag} {C : Addr} (h : objB K C = true) : ObjC K C := by
  unfold objB at h
  simp only [Bool.and_eq_true, decide_eq_true_eq] at h
  obtain ⟨h1, h2, h3, h4, h5, h6, h7, h8⟩ := h
  exact ⟨⟨h1, h2, h3, h4⟩, h5, h6, h7, h8⟩
def excB (K : PySem.W.Frag) (C : Addr) : Bool := (PySem.W.clsIn K C).isSome && (decide (PySem.W.findIn K (.ref C) "__getattribute__" = some (some (.builtin "BaseException.__getattribute__"))) && (decide (PySem.W.findIn K (.ref C) "__getattr__" = some none) && (decide (PySem.W.subIn K (.ref C) (.type "BaseException") = some true) && (decide (PySem.W.findIn K (.ref C) "__class__" = some (some (.builtin "object.__class__"))) &&
  (decide (PySem.W.specialIn K (.builtin "object.__class__") "__get__" = some (some (.builtin "getset_descriptor.__get__"))) && (decide (PySem.W.takesIn K (.builtin "object.__class__") = some true) && decide (PySem.W.mroIn K C (.type "object") = some true)))))))
theorem excB_ok {K : PySem.W.Frag} {C : Addr} (h : excB K C = true) : ExcC K C := by
  unfold excB at h
  simp only [Bool.and_eq_true, decide_eq_true_eq] at h
  obtain ⟨h1, h2, h3, h4, h5, h6, h7, h8⟩ := h
  exact ⟨h1, h2, h3, h4, h5, h6, h7, h8⟩
def isTab1 (K : PySem.W.Frag) (us : List (Nat × Addr)) (p : Nat × Addr) : Bool := (us.all fun q => decide (PySem.W.kitOne K (.ref p.2) (.ref q.2) = some (overC p.1 q.1))) && ((bT.all fun u => decide (PySem.W.kitOne K (.ref p.2) (.type u) = some (isaT (.c p.1) (.t u)))) && (if p.1 < 10 then objB K p.2 else excB K p.2))
def isTab2 (K : PySem.W.Frag) (q : Nat × Addr) : Bool := bS.all fun b => decide (PySem.W.kitOne K (.type b) (.ref q.2) = some false)
def isTab (K : PySem.W.Frag) (l us : List (Nat × Addr)) : Bool := l.all (isTab1 K us) && us.all (isTab2 K)
theorem isM_of {K : PySem.W.Frag} {ca : Nat → Addr} {l us : List (Nat × Addr)} (hl : ∀ p ∈ l, ca p.1 = p.2) (hu : ∀ p ∈ us, ca p.1 = p.2) (h : isTab K l us = true) : IsM K ca (l.map (·.1)) (us.map (·.1)) := by
  unfold isTab at h
  simp only [Bool.and_eq_true, List.all_eq_true] at h
  obtain ⟨h1, h2⟩ := h
  have one : ∀ p ∈ l, (∀ q ∈ us, PySem.W.kitOne K (.ref p.2) (.ref q.2) = some (overC p.1 q.1)) ∧ (∀ u ∈ bT, PySem.W.kitOne K (.ref p.2) (.type u) = some (isaT (.c p.1) (.t u))) ∧ (if p.1 < 10 then objB K p.2 else excB K p.2) = true := fun p hp => by
    have z := h1 p hp
    unfold isTab1 at z
    simp only [Bool.and_eq_true, List.all_eq_true, decide_eq_true_eq] at z
    exact z
  have two : ∀ q ∈ us, ∀ b ∈ bS, PySem.W.kitOne K (.type b) (.ref q.2) = some false := fun q hq b hb => by
    have z := h2 q hq
    unfold isTab2 at z
    simp only [List.all_eq_true, decide_eq_true_eq] at z
    exact z b hb
  refine ⟨fun c hc u hu' => ?_, fun c hc u hu' => ?_, fun b hb u hu' => ?_, fun c hc h10 => ?_, fun c hc h10 => ?_⟩
  · obtain ⟨p, hp, rfl⟩ := List.mem_map.mp hc
    obtain ⟨q, hq, rfl⟩ := List.mem_map.mp hu'
    rw [hl p hp, hu q hq]
    exact (one p hp).1 q hq
  · obtain ⟨p, hp, rfl⟩ := List.mem_map.mp hc
    rw [hl p hp]
    exact (one p hp).2.1 u hu'
  · obtain ⟨q, hq, rfl⟩ := List.mem_map.mp hu'
    rw [hu q hq]
    exact two q hq b hb
  · obtain ⟨p, hp, rfl⟩ := List.mem_map.mp hc
    rw [hl p hp]
    have z := (one p hp).2.2
    rw [if_pos h10] at z
    exact objB_ok z
  · obtain ⟨p, hp, rfl⟩ := List.mem_map.mp hc
    rw [hl p hp]
    have z := (one p hp).2.2
    rw [if_neg (by omega)] at z
    exact excB_ok z
def ctB (K : PySem.W.Frag) (l us : List (Nat × Addr)) : Bool := l.all fun p => us.all fun q => decide (PySem.W.exmOne K (.ref p.2) (.ref q.2) = some (overC p.1 q.1))
theorem ctM_of {K : PySem.W.Frag} {ca : Nat → Addr} {l us : List (Nat × Addr)} (hl : ∀ p ∈ l, ca p.1 = p.2) (hu : ∀ p ∈ us, ca p.1 = p.2) (h : ctB K l us = true) : CtM K ca (l.map (·.1)) (us.map (·.1)) := by
  unfold ctB at h
  simp only [List.all_eq_true, decide_eq_true_eq] at h
  refine ⟨fun c hc u hu' => ?_⟩
  obtain ⟨p, hp, rfl⟩ := List.mem_map.mp hc
  obtain ⟨q, hq, rfl⟩ := List.mem_map.mp hu'
  rw [hl p hp, hu q hq]
  exact h p hp q hq
/-- an attribute of objects -/
def flB (K : PySem.W.Frag) (f : Str) (l : List (Nat × Addr)) : Bool := l.all fun p => objB K p.2 && decide (PySem.W.findIn K (.ref p.2) f = some none)
theorem fldM_by {K : PySem.W.Frag} {ca : Nat → Addr} {f : Str} {l : List (Nat × Addr)} (hl : ∀ p ∈ l, ca p.1 = p.2) (h : flB K f l = true) : FldM K ca f (plOf (l.map (·.1)) f) := fldM_of fun c hc => by
  obtain ⟨p, hp, rfl⟩ := List.mem_map.mp hc
  rw [hl p hp]
  unfold flB at h
  simp only [List.all_eq_true, Bool.and_eq_true, decide_eq_true_eq] at h
  exact ⟨(objB_ok (h p hp).1).cl, (h p hp).2⟩
theorem clM_by {K : PySem.W.Frag} {ca : Nat → Addr} {f : Str} {l : List (Nat × Addr)} {c : Nat} (hl : ∀ p ∈ l, ca p.1 = p.2) (h : flB K f l = true) (hc : c ∈ l.map (·.1)) : ClM K ca f c := by
  obtain ⟨p, hp, rfl⟩ := List.mem_map.mp hc
  unfold flB at h
  simp only [List.all_eq_true, Bool.and_eq_true, decide_eq_true_eq] at h
  have z := h p hp
  refine ⟨?_, ?_, cflds_nd _⟩
  · rw [hl p hp]; exact (objB_ok z.1).cl
  · rw [hl p hp]; exact z.2
def xlB (K : PySem.W.Frag) (f : Str) (l : List (Nat × Addr)) : Bool := l.all fun p => xfB K p.2 && decide (PySem.W.findIn K (.ref p.2) f = some none)
theorem fldX_by {K : PySem.W.Frag} {ca : Nat → Addr} {f : Str} {l : List (Nat × Addr)} (hl : ∀ p ∈ l, ca p.1 = p.2) (h : xlB K f l = true) : FldX K ca f (plOf (l.map (·.1)) f) := fldX_of fun c hc => by
  obtain ⟨p, hp, rfl⟩ := List.mem_map.mp hc
  rw [hl p hp]
  unfold xlB at h
  simp only [List.all_eq_true, Bool.and_eq_true, decide_eq_true_eq] at h
  exact ⟨xfB_ok (h p hp).1, (h p hp).2⟩
/-- an error class without an __init__ of its own -/
def e0B (K : PySem.W.Frag) (C : Addr) : Bool := PySem.W.excIn K C veT "ValueError.__new__" && (PySem.W.keepIn K (.ref C) && (decide (PySem.W.subIn K (.ref C) (.type "BaseException") = some true) && decide (PySem.W.typeIn K (.ref C) = some (.type "type"))))
theorem exM0_by {K : PySem.W.Frag} {mg : Str → Option Value} {C : Addr} {c : Nat} (hm : mg (cname c) = some (.ref C)) (h : e0B K C = true) (no : cflds c = [] := by rfl) : ExM0 K mg C c := by
  unfold e0B at h
  simp only [Bool.and_eq_true, decide_eq_true_eq] at h
  obtain ⟨h1, h2, h3, h4⟩ := h
  exact ⟨hm, h1, h2, h3, h4, no⟩
/-- .. with one -/
def oexB (K : PySem.W.Frag) (C : Addr) : Bool := decide (PySem.W.findIn K (.ref C) "__setattr__" = some (some (.builtin "object.__setattr__"))) && (decide (PySem.W.subIn K (.ref C) (.type "BaseException") = some true) && (decide (PySem.W.typeIn K (.ref C) = some (.type "type")) && PySem.W.keepIn K (.ref C)))
theorem oexC_by {K : PySem.W.Frag} {C : Addr} {nm q : Str} {N : Addr} {bs bm : List Value} {sn : List Str} {sub : List Value} {ab : Bool} {col : Option Bool} {dd : Option Addr} {k0 k1 k2 k3 k5 : Option Value}
    (hC : K.lookup C = some (excClassObj nm q C N bs bm true sn sub ab col dd k0 k1 k2 k3 k5 "ValueError.__new__")) (hb : PySem.HandSPX.refsVE bm = true) (h : oexB K C = true) : OexC K C := by
  unfold oexB at h
  simp only [Bool.and_eq_true, decide_eq_true_eq] at h
  obtain ⟨h1, h2, h3, h4⟩ := h
  exact ⟨⟨nm, q, N, bs, bm, sn, sub, ab, col, dd, k0, k1, k2, k3, k5, hC, hb⟩, h1, h2, h3, h4⟩
theorem cg_by {P : Program} {w : World} {K : PySem.W.Frag} {mg : Str → Option Value} {c : Nat} {C : Addr} (h : mg (cname c) = some (.ref C)) : mg (cname c) = some (.ref ((⟨P, w, K, mg⟩ : GC).ca c)) := by
  rw [ca_of (G := ⟨P, w, K, mg⟩) h]
  exact h
theorem nT_same (H : Hp) : Same (nT H) H := fun _ _ e => (nT_of e).1
theorem tt_start {H : Hp} {cs : List (Addr × Addr)} (hl : Tn.l = cs.map (·.2)) (hH : ∀ p ∈ cs, H p.2 = some (.tbl #[])) : Tt (nT H) H := fun P hP => by
  rw [hl] at hP
  obtain ⟨p, hp, rfl⟩ := List.mem_map.mp hP
  refine ⟨?_, #[], hH p hp, True.intro, fun pos cv e => ?_⟩
  · unfold nT
    rw [hH p hp]
  · have z : codeAmong pos [] = some cv := e
    simp [codeAmong] at z
/-- the tables: the def's name, where it stands, its code object, its table -/
abbrev TbE := Str × Addr × Addr × Addr
def tabKB (K : PySem.W.Frag) (t : TbE) : Bool := (match K.lookup t.2.1 with
  | some ⟨_, _, .func fd, _⟩ => (match fd.code with | .ref c => decide (c = t.2.2.1) | _ => false)
  | _ => false) && (PySem.W.codeHdIn K t.2.2.1 t.2.2.2 && ((match K.lookup t.2.2.1 with
  | some ⟨_, _, .fields vs, _⟩ => (match (vs[11]? : Option Value) with | some (.ref P) => decide (P = t.2.2.2) | _ => false)
  | _ => false) && (K.lookup t.2.2.2).isNone))
theorem tabKB_some {K : PySem.W.Frag} {t : TbE} (h : tabKB K t = true) : (∃ (o : Obj) (fd : FuncData), K.lookup t.2.1 = some o ∧ o.data = .func fd ∧ fd.code = .ref t.2.2.1) ∧ PySem.W.codeHdIn K t.2.2.1 t.2.2.2 = true ∧
    (∃ (e : Value) (dd : Option Addr) (vs : Array Value) (sl : Array (Option Value)), K.lookup t.2.2.1 = some ⟨e, dd, .fields vs, sl⟩ ∧ vs[11]? = some (.ref t.2.2.2)) ∧ K.lookup t.2.2.2 = none := by
  unfold tabKB at h
  simp only [Bool.and_eq_true] at h
  obtain ⟨h1, h2, h3, h4⟩ := h
  refine ⟨?_, h2, ?_, by simpa using h4⟩
  · split at h1
    · rename_i fd _ e
      split at h1
      · rename_i c ec
        have := of_decide_eq_true h1
        subst this
        exact ⟨_, fd, e, rfl, ec⟩
      · cases h1
    · cases h1
  · split at h3
    · rename_i vs _ e
      split at h3
      · rename_i c ec
        have := of_decide_eq_true h3
        rw [this] at ec
        exact ⟨_, _, vs, _, e, ec⟩
      · cases h3
    · cases h3
/-- the law's promise, and the tables that it leans on -/
def LawT (P : Program) (w : World) (K : PySem.W.Frag) (q : Program) (k : Nat) (x : Str) (mg : Str → Option Value) (fa : Addr) (g : List D → Res D) : Prop :=
  ∃ (tn : Tn) (fd : FuncData) (ts : List TbE), tn.l = ts.map (·.2.2.2) ∧ (∀ t ∈ ts, ((recsOf q).any fun e => e.name == t.1) = true ∧ mg t.1 = some (.ref t.2.1) ∧ tabKB K t = true) ∧ (∀ (s : Shared) (u : Value), BindsTo s fd ⟨[u], []⟩ [(x, u)]) ∧
    ∀ base : Heap, K.In base → base.Ns mainGlobals mg → (∀ t ∈ ts, LamX.TabB base mg t.2.2.1 t.2.2.2) → FnOk P w K mg base (L2.CX P w) k fa fd [x] (@spM tn ⟨P, w, K, mg⟩ .S g)
theorem walk_mir {l : PySem.W.OpenLaw} {k : Nat} {q : Program} {loose : List Str} {XP : (Str → Option Value) → Heap → Prop} {YP : World → Heap → Prop} {d : DefRec} {K : Params → PySem.W.Frag} {x : Str} {g : List D → Res D}
    (hn : l.most = some 63) (hdf : d.params.defaults = []) (hr : Room k callerA) (hY : ∀ (w : World) (h : Heap), YP w h → (K w.params).In h) (hg : ∀ ns : List Int, ns.length ≤ 63 → g [.scr ns] = .ok (.bl true))
    (F : ∀ (w : World) (mg : Str → Option Value) (fa : Addr) (h : Heap), (K w.params).In h → h.Ns mainGlobals mg → mg d.name = some (.ref fa) → LawT l.prog w (K w.params) q k x mg fa g) :
    PySem.W.WalkO q loose XP YP l.row.toRowW d [] (fun f vs => PySem.call f vs) := by
  refine Att.attach_callB hn hdf fun w s₀ s₁ mg mb fa o pm cd doc a vs ns G Y ho hd hcd hmg hobj hints hlen hbits hg' => ?_
  have KX := hY w _ Y
  obtain ⟨tn, fd, ts, hl, ht, hb, hF⟩ := F w mg fa _ KX G.T.g hmg
  have emp : ∀ t ∈ ts, s₁.heap.get? t.2.2.2 = some { cls := .none, data := .fields #[] } := fun t htm => by
    obtain ⟨hrec, hmt, hk⟩ := ht t htm
    obtain ⟨⟨o1, fd1, k1, k2, k3⟩, _, ⟨e, dd, vs1, sl, k4, k5⟩, _⟩ := tabKB_some hk
    obtain ⟨dL, hm, hn1⟩ := List.any_eq_true.mp hrec
    have hn2 : dL.name = t.1 := beq_iff_eq.mp hn1
    obtain ⟨a', o', fd', c', P', h1, h2, h3, h4, h5, h6⟩ := G.T.tab dL hm
    rw [hn2, hmt] at h1
    cases h1
    have g1 := KX _ _ k1
    rw [g1] at h2
    cases h2
    rw [k2] at h3
    cases h3
    rw [k3] at h4
    cases h4
    obtain ⟨⟨oc, vc, e1, _, e3, e4⟩, hP⟩ := h6
    have g2 := KX _ _ k4
    rw [g2] at e1
    cases e1
    cases e3
    rw [k5] at e4
    cases e4
    exact hP
  refine LamX.law_callTs (cs := ts.map (·.2.2)) KX G.T.g G.T.b G.T.builtins G.T.nolimit hg' (fun p hp => ?_) (fun p hp => ?_) (fun p hp => ?_) G.T.bmain hobj hints (Nat.le_trans hlen (by rw [sizeLine_eq]; decide)) hr (fun base h1 h2 h3 => hF base h1 h2 fun t htm => h3 t.2.2 (List.mem_map.mpr ⟨t, htm, rfl⟩)) hb (fun H hH hS => ?_) fun H e s' c => ?_
  · obtain ⟨t, htm, rfl⟩ := List.mem_map.mp hp
    exact emp t htm
  · obtain ⟨t, htm, rfl⟩ := List.mem_map.mp hp
    exact (tabKB_some (ht t htm).2.2).2.2.2
  · obtain ⟨t, htm, rfl⟩ := List.mem_map.mp hp
    exact PySem.W.codeHd_of_K KX (tabKB_some (ht t htm).2.2).2.1
  · refine ⟨nT H, [.scr ns], nT_same H, tt_start (cs := ts.map (·.2.2)) (by rw [hl, List.map_map]; rfl) hH, .cons (.scr (sqL_nT hS)) .nil, ?_⟩
    rw [hg ns hlen]
    intro F' H' _ v kv
    cases (show Rep _ F' v (.bl true) from kv)
    rfl
  · obtain ⟨a, B, H', cls, d, rfl, fl, hok, ub, na, os, ag, hE⟩ := c
    exact hE
end Mir
namespace Mir
open PySem PySem.Spec PyProof.Rows L2
variable [Tn]
@[simp] def tupD (ds : List D) : Res D := if ds.length ≤ lim then .ok (.tup ds) else .bad
def raiseD (c : Nat) (ds : List D) (r : Env) : Oc := if ds.length = (cflds c).length ∧ ds.length ≤ 1000 then .er (.exc c ds.reverse) r else .bad
theorem boot_ty_int : bootBuiltins "int" = some (.type "int") := by decide +kernel
theorem boot_ty_bool : bootBuiltins "bool" = some (.type "bool") := by decide +kernel
theorem boot_ty_tuple : bootBuiltins "tuple" = some (.type "tuple") := by decide +kernel
theorem boot_ty_list : bootBuiltins "list" = some (.type "list") := by decide +kernel
theorem re_gI {X : Cx} {W : Wi} {x : Str} {pos : Pos} {i : Int} (hm : ∃ t, X.mg x = some (.int i t)) (hg : Gl X x := by rfl) (hd : (x == ("__debug__" : Str)) = false := by decide) : RE X W .S (.Name x pos) (fun _ => .ok (.int i)) :=
  let ⟨_, h⟩ := hm
  re_gInt h hg hd
/-- how many turns of a while are looked after -/
@[irreducible] def turns : Nat := 1000000
theorem turns_eq : turns = 1000000 := by unfold turns; rfl
/-- a while of at most so many turns -/
def loopD (c : Env → Res Bool) (b : Env → Oc) (r : Env) : Oc := whileD c b turns r
theorem rs_loop {X : Cx} {W : Wi} {k : Kd} {c : Expr} {body : List Stmt} {pos : Pos} {f : Env → Res Bool} {gb : Env → Oc} (hp : PassesOwn (model X.prog X.w) X.A X.env X.xe) (hc : RT X W c f) (hb : RSs X W k body gb) : RS X W k (.While c body [] pos) (loopD f gb) := rs_while hp hc hb fun _ => turns
end Mir
namespace Mir
open PySem PySem.Spec PyProof.Rows L2
variable [Tn]
def okQ : Nat → D → Bool
  | _, .non => true
  | _, .bl _ => true
  | _, .int _ => true
  | _, .str s => PyData.strOk s
  | n + 1, .tup xs => xs.all (okQ n)
  | n + 1, .lst xs => xs.all (okQ n)
  | _, _ => false
mutual
def eqQ : D → D → Bool
  | .non, .non => true
  | .bl a, .bl b => a == b
  | .bl a, .int j => (if a = true then 1 else 0) == j
  | .int i, .bl b => i == (if b = true then 1 else 0)
  | .int i, .int j => i == j
  | .str x, .str y => x == y
  | .lst xs, .lst ys => eqQs xs ys
  | .tup xs, .tup ys => eqQs xs ys
  | _, _ => false
def eqQs : List D → List D → Bool
  | [], [] => true
  | x :: xs, y :: ys => eqQ x y && eqQs xs ys
  | _, _ => false
end
theorem toPy_ok : ∀ (n : Nat) (d : D), okQ n d = true → ∃ p, toPy d = some p ∧ p.canLay0 = true ∧ p.depth ≤ n := by
  have all : ∀ (n : Nat), (∀ d, okQ n d = true → ∃ p, toPy d = some p ∧ p.canLay0 = true ∧ p.depth ≤ n) → ∀ xs : List D, xs.all (okQ n) = true → ∃ ps, toPy.toPys xs = some ps ∧ PyData.canLayAll0 ps = true ∧ PyData.depthAll ps ≤ n := fun n h xs => by
    induction xs with
    | nil => exact fun _ => ⟨[], by rw [toPy.toPys], by rw [PyData.canLayAll0], by rw [PyData.depthAll]; omega⟩
    | cons x xs ih =>
      intro hx
      rw [List.all_cons, Bool.and_eq_true] at hx
      obtain ⟨p, h1, h2, h3⟩ := h x hx.1
      obtain ⟨ps, h4, h5, h6⟩ := ih hx.2
      exact ⟨p :: ps, by rw [toPy.toPys, h1, h4], by rw [PyData.canLayAll0, h2, h5]; rfl, by rw [PyData.depthAll]; omega⟩
  intro n
  induction n with
  | zero =>
    intro d h
    cases d with
    | non => exact ⟨.none, by rw [toPy], by rw [PyData.canLay0], by rw [PyData.depth]; omega⟩
    | bl b => exact ⟨.bool b, by rw [toPy], by rw [PyData.canLay0], by rw [PyData.depth]; omega⟩
    | int i => exact ⟨.int i, by rw [toPy], by rw [PyData.canLay0], by rw [PyData.depth]; omega⟩
    | str s => exact ⟨.str s, by rw [toPy], by rw [PyData.canLay0]; simpa [okQ] using h, by rw [PyData.depth]; omega⟩
    | _ => simp [okQ] at h
  | succ n ih =>
    intro d h
    cases d with
    | non => exact ⟨.none, by rw [toPy], by rw [PyData.canLay0], by rw [PyData.depth]; omega⟩
    | bl b => exact ⟨.bool b, by rw [toPy], by rw [PyData.canLay0], by rw [PyData.depth]; omega⟩
    | int i => exact ⟨.int i, by rw [toPy], by rw [PyData.canLay0], by rw [PyData.depth]; omega⟩
    | str s => exact ⟨.str s, by rw [toPy], by rw [PyData.canLay0]; simpa [okQ] using h, by rw [PyData.depth]; omega⟩
    | tup xs =>
      obtain ⟨ps, h1, h2, h3⟩ := all n ih xs (by simpa [okQ] using h)
      exact ⟨.tuple ps, by rw [toPy, h1]; rfl, by rw [PyData.canLay0, h2], by rw [PyData.depth]; omega⟩
    | lst xs =>
      obtain ⟨ps, h1, h2, h3⟩ := all n ih xs (by simpa [okQ] using h)
      exact ⟨.list ps, by rw [toPy, h1]; rfl, by rw [PyData.canLay0, h2], by rw [PyData.depth]; omega⟩
    | _ => simp [okQ] at h
theorem eqv_eqQ : ∀ (n : Nat) (a b : D) (p q : PyData), okQ n a = true → toPy a = some p → toPy b = some q → PyData.eqv p q = eqQ a b := by
  have all : ∀ (n : Nat), (∀ (a b : D) (p q : PyData), okQ n a = true → toPy a = some p → toPy b = some q → PyData.eqv p q = eqQ a b) → ∀ (xs ys : List D) (ps qs : List PyData), xs.all (okQ n) = true → toPy.toPys xs = some ps → toPy.toPys ys = some qs → PyData.eqvAll ps qs = eqQs xs ys := fun n h xs => by
    induction xs with
    | nil =>
      intro ys ps qs _ h1 h2
      rw [toPy.toPys] at h1
      cases h1
      cases ys with
      | nil => rw [toPy.toPys] at h2; cases h2; simp [PyData.eqvAll, eqQs]
      | cons y ys =>
        rw [toPy.toPys] at h2
        split at h2
        · cases h2; simp [PyData.eqvAll, eqQs]
        · cases h2
    | cons x xs ih =>
      intro ys ps qs h0 h1 h2
      rw [List.all_cons, Bool.and_eq_true] at h0
      rw [toPy.toPys] at h1
      split at h1
      · rename_i p ps' e1 e2
        cases h1
        cases ys with
        | nil => rw [toPy.toPys] at h2; cases h2; simp [PyData.eqvAll, eqQs]
        | cons y ys =>
          rw [toPy.toPys] at h2
          split at h2
          · rename_i q qs' e3 e4
            cases h2
            rw [PyData.eqvAll, eqQs, h x y p q h0.1 e1 e3, ih ys ps' qs' h0.2 e2 e4]
          · cases h2
      · cases h1
  intro n
  induction n with
  | zero =>
    intro a b p q h0 h1 h2
    cases a <;> first | (simp [okQ] at h0; done) | skip
    all_goals (simp only [toPy, Option.some.injEq] at h1; subst h1)
    all_goals cases b
    all_goals first
      | (simp only [toPy, Option.some.injEq] at h2; subst h2; simp [PyData.eqv, eqQ]; done)
      | (simp only [toPy, Option.map_eq_some_iff] at h2; obtain ⟨qs, _, h2⟩ := h2; subst h2; simp [PyData.eqv, eqQ]; done)
      | (simp [toPy] at h2; done)
  | succ n ih =>
    intro a b p q h0 h1 h2
    cases a <;> first | (simp [okQ] at h0; done) | skip
    all_goals first
      | (simp only [toPy, Option.some.injEq] at h1; subst h1)
      | (simp only [toPy, Option.map_eq_some_iff] at h1; obtain ⟨ps, e1, h1⟩ := h1; subst h1)
    all_goals cases b
    all_goals first
      | (simp only [toPy, Option.some.injEq] at h2; subst h2; simp [PyData.eqv, eqQ]; done)
      | (simp only [toPy, Option.map_eq_some_iff] at h2; obtain ⟨qs, e2, h2⟩ := h2; subst h2; first | (simp [PyData.eqv, eqQ]; done) | (rw [PyData.eqv, eqQ]; exact all n ih _ _ _ _ (by simpa [okQ] using h0) e1 e2))
      | (simp [toPy] at h2; done)
theorem eqS_ok {a b : D} (ha : okQ 64 a = true) (hb : okQ 64 b = true) : eqS a b = .ok (.bl (eqQ a b)) := by
  obtain ⟨p, h1, h2, h3⟩ := toPy_ok 64 a ha
  obtain ⟨q, h4, h5, h6⟩ := toPy_ok 64 b hb
  unfold eqS
  rw [h1, h4]
  have s1 : SeqAt.shaped p = true := by unfold SeqAt.shaped; rw [h2]; simpa using h3
  have s2 : SeqAt.shaped q = true := by unfold SeqAt.shaped; rw [h5]; simpa using h6
  simp only [s1, s2, and_self, if_true, eqv_eqQ 64 a b p q ha h1 h4]
theorem neS_ok {a b : D} (ha : okQ 64 a = true) (hb : okQ 64 b = true) : neS a b = .ok (.bl (!eqQ a b)) := by
  obtain ⟨p, h1, h2, h3⟩ := toPy_ok 64 a ha
  obtain ⟨q, h4, h5, h6⟩ := toPy_ok 64 b hb
  unfold neS
  rw [h1, h4]
  have s1 : SeqAt.shaped p = true := by unfold SeqAt.shaped; rw [h2]; simpa using h3
  have s2 : SeqAt.shaped q = true := by unfold SeqAt.shaped; rw [h5]; simpa using h6
  simp only [s1, s2, and_self, if_true, eqv_eqQ 64 a b p q ha h1 h4]
theorem eqQ_refl : ∀ (n : Nat) (a : D), okQ n a = true → eqQ a a = true := by
  have all : ∀ n, (∀ a, okQ n a = true → eqQ a a = true) → ∀ xs : List D, xs.all (okQ n) = true → eqQs xs xs = true := fun n h xs => by
    induction xs with
    | nil => intro _; rw [eqQs]
    | cons x xs ih =>
      intro h0
      rw [List.all_cons, Bool.and_eq_true] at h0
      rw [eqQs, h x h0.1, ih h0.2]
      rfl
  intro n
  induction n with
  | zero =>
    intro a h
    cases a <;> first | (simp [okQ] at h; done) | simp [eqQ]
  | succ n ih =>
    intro a h
    cases a <;> first | (simp [okQ] at h; done) | (simp [eqQ]; done) | (rw [eqQ]; exact all n ih _ (by simpa [okQ] using h))
/-- a tuple, a list of whole numbers -/
abbrev tuI (xs : List Int) : D := .tup (xs.map .int)
abbrev liI (xs : List Int) : D := .lst (xs.map .int)
theorem okQ_ints (n : Nat) (xs : List Int) : (xs.map D.int).all (okQ n) = true := by
  rw [List.all_eq_true]
  intro x hx
  obtain ⟨i, _, rfl⟩ := List.mem_map.mp hx
  cases n <;> rfl
@[simp] theorem okQ_int (n : Nat) (i : Int) : okQ n (.int i) = true := by cases n <;> rfl
@[simp] theorem okQ_bl (n : Nat) (i : Bool) : okQ n (.bl i) = true := by cases n <;> rfl
@[simp] theorem okQ_non (n : Nat) : okQ n .non = true := by cases n <;> rfl
@[simp] theorem okQ_str (n : Nat) (s : Str) : okQ n (.str s) = PyData.strOk s := by cases n <;> rfl
@[simp] theorem okQ_tI (n : Nat) (xs : List Int) : okQ (n + 1) (tuI xs) = true := okQ_ints n xs
theorem eqQs_ints : ∀ xs ys : List Int, eqQs (xs.map D.int) (ys.map D.int) = decide (xs = ys)
  | [], [] => by simp [eqQs]
  | [], _ :: _ => by simp [eqQs]
  | _ :: _, [] => by simp [eqQs]
  | x :: xs, y :: ys => by
    rw [List.map_cons, List.map_cons, eqQs, eqQs_ints xs ys, eqQ]
    by_cases h : x = y <;> by_cases h2 : xs = ys <;> simp [h, h2]
@[simp] theorem eqS_int (i j : Int) : eqS (.int i) (.int j) = .ok (.bl (decide (i = j))) := by
  rw [eqS_ok (by simp) (by simp), eqQ]
  by_cases h : i = j <;> simp [h]
@[simp] theorem neS_int (i j : Int) : neS (.int i) (.int j) = .ok (.bl (!decide (i = j))) := by
  rw [neS_ok (by simp) (by simp), eqQ]
  by_cases h : i = j <;> simp [h]
@[simp] theorem addD_int (i j : Int) : addD (.int i) (.int j) = .ok (.int (i + j)) := rfl
@[simp] theorem subD_int (i j : Int) : subD (.int i) (.int j) = .ok (.int (i - j)) := rfl
theorem modD_ok {i j : Int} (h : 0 < j) : modD (.int i) (.int j) = .ok (.int (i % j)) := if_pos h
theorem bits_le {i : Int} (h : i.natAbs < 2 ^ 250) : bits i < 250 := by
  unfold bits
  by_cases h0 : i.natAbs = 0
  · rw [h0]; decide
  · exact (Nat.log2_lt h0).mpr h
theorem mulD_ok {i j : Int} (h1 : bits i < 250) (h2 : bits j < 250) : mulD (.int i) (.int j) = .ok (.int (i * j)) := by
  show (if bits i + bits j < 1000000 ∨ CMul i j then _ else _) = _
  rw [if_pos (.inl (by omega))]
theorem mulD_small {i j : Int} (h : CMul i j) : mulD (.int i) (.int j) = .ok (.int (i * j)) := by
  show (if bits i + bits j < 1000000 ∨ CMul i j then _ else _) = _
  rw [if_pos (.inr h)]
theorem divD_ok {i j : Int} (h : 0 < j) (h2 : bits j < 250) : divD (.int i) (.int j) = .ok (.int (i / j)) := if_pos ⟨h, by omega⟩
@[simp] theorem gtD_int (i j : Int) : gtD (.int i) (.int j) = .ok (.bl (decide (j < i))) := rfl
@[simp] theorem ltD_int (i j : Int) : ltD (.int i) (.int j) = .ok (.bl (decide (i < j))) := rfl
@[simp] theorem leD_int (i j : Int) : leD (.int i) (.int j) = .ok (.bl (decide (i ≤ j))) := rfl
@[simp] theorem geD_int (i j : Int) : geD (.int i) (.int j) = .ok (.bl (decide (j ≤ i))) := rfl
@[simp] theorem asB_bl (b : Bool) : asB (.bl b) = .ok b := rfl
@[simp] theorem getS0 (d : D) (r : Env) : getS 0 (.sh d :: r) = .ok d := rfl
@[simp] theorem getR0 (d : D) (r : Env) : getR 0 (.sh d :: r) = .ok d := rfl
@[simp] theorem getR0o (d : D) (r : Env) : getR 0 (.ow .flat d :: r) = .ok d := rfl
@[simp] theorem getS_succ (i : Nat) (x : Slot) (r : Env) : getS (i + 1) (x :: r) = getS i r := by simp [getS]
@[simp] theorem getR_succ (i : Nat) (x : Slot) (r : Env) : getR (i + 1) (x :: r) = getR i r := by simp [getR]
@[simp] theorem lenD_lst (xs : List D) : lenD (.lst xs) = .ok (.int xs.length) := rfl
@[simp] theorem lenD_tup (xs : List D) : lenD (.tup xs) = .ok (.int xs.length) := rfl
@[simp] theorem lenD_scr (xs : List Int) : lenD (.scr xs) = .ok (.int xs.length) := rfl
@[simp] theorem sumD_scr (xs : List Int) : sumD (.scr xs) = .ok (.int xs.sum) := rfl
@[simp] theorem seq_ite (c : Prop) [Decidable c] (a b : Oc) (g : Env → Oc) : (if c then a else b).seq g = if c then a.seq g else b.seq g := by split <;> rfl
/-- a number of at most sixty figures -/
theorem bits_60 {i : Int} (h1 : -(10 ^ 60) ≤ i) (h2 : i ≤ 10 ^ 60) : bits i < 250 := bits_le (Nat.lt_of_le_of_lt (show i.natAbs ≤ 10 ^ 60 by omega) (by decide))
theorem runD_rt {p n : Nat} {g : Env → Oc} {ds : List D} {d : D} (h : ds.length = p) (e : g (startD n ds) = .rt d) : runD p n g ds = .ok d := by
  unfold runD
  rw [if_pos h, e]
theorem runD_nx {p n : Nat} {g : Env → Oc} {ds : List D} {r : Env} (h : ds.length = p) (e : g (startD n ds) = .nx r) : runD p n g ds = .ok .non := by
  unfold runD
  rw [if_pos h, e]
theorem runD_er {p n : Nat} {g : Env → Oc} {ds : List D} {r : Env} {d : D} (h : ds.length = p) (e : g (startD n ds) = .er d r) : runD p n g ds = .er d := by
  unfold runD
  rw [if_pos h, e]
theorem lcD_map {g : D → Env → Res Env} {t : Env → Res Bool} {f : Env → Res D} {r : Env} (F : D → D) : ∀ {ds : List D}, (∀ d ∈ ds, ∃ r1, g d r = .ok r1 ∧ t r1 = .ok true ∧ f r1 = .ok (F d)) → lcD g t f r ds = .ok (ds.map F)
  | [], _ => rfl
  | d :: ds, h => by
    obtain ⟨r1, h1, h2, h3⟩ := h d List.mem_cons_self
    rw [lcD, h1]
    simp only [nE_ok, ok_bind, h2, if_true, h3, lcD_map F fun d hd => h d (List.mem_cons_of_mem _ hd)]
    rfl
theorem forD_ix {f : D → Env → Oc} {ds : List D} (P : Nat → Env → Prop) (h : ∀ i d, ds[i]? = some d → ∀ r, P i r → ∃ r', f d r = .nx r' ∧ P (i + 1) r') {r : Env} (h0 : P 0 r) : ∃ r', forD f ds r = .nx r' ∧ P ds.length r' := by
  have go : ∀ (ds : List D) (k : Nat) (r : Env), (∀ i d, ds[i]? = some d → ∀ r, P (k + i) r → ∃ r', f d r = .nx r' ∧ P (k + i + 1) r') → P k r → ∃ r', forD f ds r = .nx r' ∧ P (k + ds.length) r' := fun ds => by
    induction ds with
    | nil => exact fun k r _ h0 => ⟨r, rfl, h0⟩
    | cons d ds ih =>
      intro k r h h0
      obtain ⟨r1, h1, h2⟩ := h 0 d rfl r h0
      obtain ⟨r2, h3, h4⟩ := ih (k + 1) r1 (fun i e he r hr => by
        have z := h (i + 1) e (by simpa using he) r (by rw [show k + (i + 1) = k + 1 + i by omega]; exact hr)
        rw [show k + (i + 1) + 1 = k + 1 + i + 1 by omega] at z
        exact z) h2
      refine ⟨r2, ?_, by rw [List.length_cons, show k + (ds.length + 1) = k + 1 + ds.length by omega]; exact h4⟩
      rw [forD_cons, h1]
      exact h3
  obtain ⟨r', h1, h2⟩ := go ds 0 r (fun i d hd r hr => by
    rw [Nat.zero_add] at hr ⊢
    exact h i d hd r hr) h0
  exact ⟨r', h1, by rw [Nat.zero_add] at h2; exact h2⟩
/-- each turn goes on, P stays -/
theorem forD_all {f : D → Env → Oc} {ds : List D} (P : Env → Prop) (h : ∀ d ∈ ds, ∀ r, P r → ∃ r', f d r = .nx r' ∧ P r') {r : Env} (h0 : P r) : ∃ r', forD f ds r = .nx r' ∧ P r' :=
  forD_ix (fun _ => P) (fun i d hd r hr => h d (List.mem_of_getElem? hd) r hr) h0
@[simp] theorem rangeL_zero (lo : Int) : rangeL lo 0 = [] := rfl
theorem mem_rangeL {lo : Int} {n : Nat} {d : D} (h : d ∈ rangeL lo n) : ∃ i : Nat, i < n ∧ d = .int (lo + i) := by
  unfold rangeL at h
  obtain ⟨i, h1, h2⟩ := List.mem_map.mp h
  exact ⟨i, List.mem_range.mp h1, h2.symm⟩
theorem rng1_ok {n : Int} (h0 : -1000000000 ≤ n) (h1 : n ≤ 1000000000) : rng1 [.int n] = .ok (rangeL 0 n.toNat) := if_pos ⟨h0, h1⟩
@[simp] theorem rangeL_len (lo : Int) (n : Nat) : (rangeL lo n).length = n := by simp [rangeL]
end Mir
namespace Mir
open PySem PySem.Spec PyProof.Rows L2
variable [Tn]
def SIt (h : Heap) (k : Bool) (it l : Addr) (i : Nat) : Prop := match k with
  | true => h.IsListIter it l i
  | false => h.IsTupleIter it l i
def SSrc (h : Heap) (k : Bool) (l : Addr) (items : Array Value) : Prop := match k with
  | true => h.IsList l items
  | false => h.IsTuple l items
def clsI : Bool → String
  | true => "list_iterator"
  | false => "tuple_iterator"
theorem SIt.at {h h' : Heap} {k : Bool} {it l : Addr} {i : Nat} (x : SIt h k it l i) (f : ∀ o, h.get? it = some o → h'.get? it = some o) : SIt h' k it l i := by
  cases k with
  | true => exact Heap.IsListIter.at (show h.IsListIter it l i from x) f
  | false => exact Heap.IsTupleIter.at (show h.IsTupleIter it l i from x) f
theorem SIt.ob {h : Heap} {k : Bool} {it l : Addr} {i : Nat} (x : SIt h k it l i) : ∃ o, h.get? it = some o ∧ ∀ v, o.data ≠ .cell v := by
  cases k with
  | true =>
    obtain ⟨o, e, _, d⟩ := (show h.IsListIter it l i from x)
    exact ⟨o, e, fun v q => by rw [d] at q; cases q⟩
  | false =>
    obtain ⟨o, e, _, d⟩ := (show h.IsTupleIter it l i from x)
    exact ⟨o, e, fun v q => by rw [d] at q; cases q⟩
theorem SIt.lt {h : Heap} {k : Bool} {it l : Addr} {i : Nat} (x : SIt h k it l i) : it < h.objs.size := let ⟨_, e, _⟩ := x.ob; Heap.lt_size e
theorem SSrc.at {h h' : Heap} {k : Bool} {l : Addr} {xs : Array Value} (x : SSrc h k l xs) (f : ∀ o, h.get? l = some o → h'.get? l = some o) : SSrc h' k l xs := by
  cases k with
  | true => exact Heap.IsList.at (show h.IsList l xs from x) f
  | false =>
    obtain ⟨o, e, r⟩ := (show h.IsTuple l xs from x)
    exact ⟨o, f o e, r⟩
theorem SSrc.lt {h : Heap} {k : Bool} {l : Addr} {xs : Array Value} (x : SSrc h k l xs) : l < h.objs.size := by
  cases k with
  | true =>
    obtain ⟨o, e, _⟩ := (show h.IsList l xs from x)
    exact Heap.lt_size e
  | false =>
    obtain ⟨o, e, _⟩ := (show h.IsTuple l xs from x)
    exact Heap.lt_size e
abbrev IsT (h : Heap) (T : Addr) (vs : Array Value) : Prop := h.get? T = some { cls := .type "tuple", data := .seq vs }
section
variable {prog : Program} {w : World} {A : Around} {E : Value → Shared → Prop} {s : Shared}
theorem nextS_item {k : Bool} {it l : Addr} {i : Nat} {items : Array Value} {x : Value} {Q : Value → Shared → Prop} (hit : SIt s.heap k it l i) (hl : SSrc s.heap k l items) (hx : items[i]? = some x)
    (hQ : ∀ h', SIt h' k it l (i + 1) → Heap.SameBut it s.heap h' → Q x { s with heap := h' }) : wpAny (model prog w) A (Builtin.SmallTypes.nextOf (.ref it)) Q E s := by
  cases k with
  | true => exact wpAny_nextOf_list_item hit hl hx hQ
  | false => exact RZ.nextOf_tuple_item hit hl hx hQ
theorem nextS_end {k : Bool} {it l : Addr} {i : Nat} {items : Array Value} {Q : Value → Shared → Prop} (hh : A.handled = none) (hit : SIt s.heap k it l i) (hl : SSrc s.heap k l items) (hx : items[i]? = none)
    (hE : ∀ h' e, Heap.ExtBut it s.heap h' → (∃ o, h'.get? e = some o ∧ o.cls = .type "StopIteration") → E (.ref e) { s with heap := h' }) : wpAny (model prog w) A (Builtin.SmallTypes.nextOf (.ref it)) Q E s := by
  cases k with
  | true => exact wpAny_nextOf_list_end hh hit hl hx hE
  | false => exact RZ.nextOf_tuple_end hh hit hl hx hE
theorem updT {T : Addr} {vs : Array Value} {x : Value} {k : Nat} {Q : Unit → Shared → Prop} (hT : IsT s.heap T vs) (hs : vs.size ≤ 3) (h : ∀ h', IsT h' T (vs.setIfInBounds k x) → Heap.SameBut T s.heap h' → Q () { s with heap := h' }) :
    wpAny (model prog w) A (updateSeq T (·.setIfInBounds k x)) Q E s := by
  have hl : vs.size ≤ sizeLine := Nat.le_trans hs (by rw [sizeLine_eq]; decide)
  refine wpAny_updateSeq hT rfl (hz := hl) (_hz' := by simpa using Nat.le_succ_of_le hl) (h _ ?_ (Heap.SameBut.update ..))
  show Heap.get? _ _ = _
  rw [Heap.get?_update_self _ hT rfl]
  simp [Obj.mapSeq]
theorem iterS {k : Bool} {l : Addr} {items : Array Value} {Q : Value → Shared → Prop} (hl : SSrc s.heap k l items) (h : Q (.ref s.heap.objs.size) { s with heap := s.heap.push { cls := .type (clsI k), data := .fields #[.ref l, .int 0 0] } }) :
    wpAny (model prog w) A (pyIter (.ref l)) Q E s := by
  cases k with
  | true => exact wpAny_pyIter_list hl h
  | false => exact wpAny_pyIter_tuple hl h
end
structure ZA2 (z TI TO i1 i2 l1 l2 : Addr) : Prop where
  TIz : TI ≠ z
  TOz : TO ≠ z
  TITO : TI ≠ TO
  i1z : i1 ≠ z
  TIi1 : TI ≠ i1
  TOi1 : TO ≠ i1
  l1z : l1 ≠ z
  l1TO : l1 ≠ TO
  l1i1 : l1 ≠ i1
  l1i2 : l1 ≠ i2
  i1i2 : i1 ≠ i2
  i2z : i2 ≠ z
  TIi2 : TI ≠ i2
  TOi2 : TO ≠ i2
  l2z : l2 ≠ z
  l2TO : l2 ≠ TO
  l2i1 : l2 ≠ i1
  l2i2 : l2 ≠ i2
section
variable {prog : Program} {w : World} {A : Around} {E : Value → Shared → Prop} {s : Shared}
theorem zip2_item {z TI TO i1 i2 l1 l2 : Addr} {k1 k2 : Bool} {p : Nat} {xs1 xs2 : Array Value} {x1 x2 o1 o2 : Value} {Q : Value → Shared → Prop} (D : ZA2 z TI TO i1 i2 l1 l2) (hz : IsZip s.heap z TI TO .none) (hTI : IsT s.heap TI #[.ref i1, .ref i2]) (hTO : IsT s.heap TO #[o1, o2]) (h1 : SIt s.heap k1 i1 l1 p) (hl1 : SSrc s.heap k1 l1 xs1) (h2 : SIt s.heap k2 i2 l2 p) (hl2 : SSrc s.heap k2 l2 xs2) (hx1 : xs1[p]? = some x1) (hx2 : xs2[p]? = some x2)
    (hQ : ∀ h', IsZip h' z TI TO (rawInt s.heap.objs.size) → IsT h' TO #[x1, x2] → SIt h' k1 i1 l1 (p + 1) → SIt h' k2 i2 l2 (p + 1) → IsT h' s.heap.objs.size #[x1, x2] → h'.objs.size = s.heap.objs.size + 1 → (∀ c o, c ≠ z → c ≠ TO → c ≠ i1 → c ≠ i2 → s.heap.get? c = some o → h'.get? c = some o) → Q (.ref s.heap.objs.size) { s with heap := h' }) :
    wpAny (model prog w) A (Builtin.«zip.__next__» ⟨[.ref z], []⟩) (fun fin s' => ∃ v, fin = .done (.ret v) ∧ Q v s') E s := by
  show wpAny _ _ (field (.ref z) 2 >>= _) _ _ _
  refine wpAny_bind (wpAny_field hz rfl (x := .bool false) rfl ?_)
  show wpAny _ _ (field (.ref z) 3 >>= _) _ _ _
  refine wpAny_bind (wpAny_field hz rfl (x := .ref TI) rfl ?_)
  refine wpAny_bind (wpAny_seqItems hTI rfl ?_)
  show wpAny _ _ (Builtin.SmallTypes.ownedTupleIsFree (.ref z) >>= _) _ _ _
  refine wpAny_bind ?_
  unfold Builtin.SmallTypes.ownedTupleIsFree
  refine wpAny_bind (wpAny_field hz rfl (x := .none) rfl (wpAny_pure ?_))
  simp only [if_true]
  refine wpAny_bind (wpAny_rule ?_)
  refine wpAny_bind (wpAny_field hz rfl (x := .ref TO) rfl ?_)
  refine wpAny_bind (wpAny_setField_rec hz (by simp) fun g0 zz0 s0 => ?_)
  replace zz0 : IsZip g0 z TI TO .ellipsis := zz0
  have K0 : ∀ c o, c ≠ z → s.heap.get? c = some o → g0.get? c = some o := fun c o c1 e => s0.extBut _ _ c1 e
  have T0 : IsT g0 TO #[o1, o2] := K0 _ _ D.TOz hTO
  have Z0 : g0.objs.size = s.heap.objs.size := s0.1
  refine wpAny_bind ?_
  simp only [List.zipIdx_cons, List.zipIdx_nil, List.forIn_cons, List.forIn_nil]
  refine wpAny_bind (wpAny_bind (wpAny_onRaise ?_))
  show wpAny _ _ (Builtin.SmallTypes.nextOf (.ref i1) >>= _) _ _ _
  have I1 : SIt g0 k1 i1 l1 p := h1.at fun o e => K0 _ o (D.i1z) e
  have L1 : SSrc g0 k1 l1 xs1 := hl1.at fun o e => K0 _ o (D.l1z) e
  refine wpAny_bind (nextS_item I1 L1 hx1 fun a1 n1 sa1 => wpAny_pure ?_)
  have Ta1 : IsT a1 TO #[o1, o2] := sa1.extBut _ _ (D.TOi1) T0
  refine wpAny_bind (wpAny_seqItems Ta1 rfl ?_)
  refine wpAny_bind (updT Ta1 (by simp) fun g1 T1 st1 => ?_)
  replace T1 : IsT g1 TO #[x1, o2] := T1
  have K1 : ∀ c o, c ≠ z → c ≠ TO → c ≠ i1 → s.heap.get? c = some o → g1.get? c = some o := fun c o c0 c1 c2 e => st1.extBut _ _ c1 (sa1.extBut _ _ c2 (K0 c o c0 e))
  have zz1 : IsZip g1 z TI TO .ellipsis := st1.extBut _ _ (D.TOz.symm) (sa1.extBut _ _ (D.i1z.symm) zz0)
  have Z1 : g1.objs.size = s.heap.objs.size := by rw [st1.1, sa1.1, Z0]
  have N1_1 : SIt g1 k1 i1 l1 (p + 1) := n1.at fun o e => st1.extBut _ _ (D.TOi1.symm) e
  refine wpAny_bind (wpAny_letGo (wpAny_pure ?_))
  refine wpAny_bind (wpAny_bind (wpAny_onRaise ?_))
  show wpAny _ _ (Builtin.SmallTypes.nextOf (.ref i2) >>= _) _ _ _
  have I2 : SIt g1 k2 i2 l2 p := h2.at fun o e => K1 _ o (D.i2z) (D.TOi2.symm) (D.i1i2.symm) e
  have L2 : SSrc g1 k2 l2 xs2 := hl2.at fun o e => K1 _ o (D.l2z) (D.l2TO) (D.l2i1) e
  refine wpAny_bind (nextS_item I2 L2 hx2 fun a2 n2 sa2 => wpAny_pure ?_)
  have Ta2 : IsT a2 TO #[x1, o2] := sa2.extBut _ _ (D.TOi2) T1
  refine wpAny_bind (wpAny_seqItems Ta2 rfl ?_)
  refine wpAny_bind (updT Ta2 (by simp) fun g2 T2 st2 => ?_)
  replace T2 : IsT g2 TO #[x1, x2] := T2
  have K2 : ∀ c o, c ≠ z → c ≠ TO → c ≠ i1 → c ≠ i2 → s.heap.get? c = some o → g2.get? c = some o := fun c o c0 c1 c2 c3 e => st2.extBut _ _ c1 (sa2.extBut _ _ c3 (K1 c o c0 c1 c2 e))
  have zz2 : IsZip g2 z TI TO .ellipsis := st2.extBut _ _ (D.TOz.symm) (sa2.extBut _ _ (D.i2z.symm) zz1)
  have Z2 : g2.objs.size = s.heap.objs.size := by rw [st2.1, sa2.1, Z1]
  have N2_2 : SIt g2 k2 i2 l2 (p + 1) := n2.at fun o e => st2.extBut _ _ (D.TOi2.symm) e
  have N1_2 : SIt g2 k1 i1 l1 (p + 1) := N1_1.at fun o e => st2.extBut _ _ (D.TOi1.symm) (sa2.extBut _ _ (D.i1i2) e)
  refine wpAny_bind (wpAny_letGo (wpAny_pure (wpAny_pure ?_)))
  refine wpAny_bind (wpAny_seqItems T2 rfl ?_)
  refine wpAny_bind (wpAny_newTuple ?_)
  show wpAny _ _ (Builtin.SmallTypes.ownedTupleHandOut (.ref z) (.ref g2.objs.size) >>= _) _ _ _
  refine wpAny_bind ?_
  unfold Builtin.SmallTypes.ownedTupleHandOut
  have hzl : z < g2.objs.size := Heap.lt_size zz2
  have zp : IsZip (g2.push { cls := .type "tuple", data := .seq #[x1, x2] }) z TI TO .ellipsis := Heap.get?_push_of_some _ zz2
  refine wpAny_bind (wpAny_setField_rec zp (by simp) fun e7 z7 s7 => ?_)
  replace z7 : IsZip e7 z TI TO (rawInt g2.objs.size) := z7
  refine wpAny_setField_rec z7 (by simp) fun e8 z8 s8 => ?_
  replace z8 : IsZip e8 z TI TO (rawInt g2.objs.size) := z8
  have up : ∀ c o, c ≠ z → g2.get? c = some o → e8.get? c = some o := fun c o c1 e => s8.extBut _ _ c1 (s7.extBut _ _ c1 (Heap.get?_push_of_some _ e))
  have t8 : IsT e8 g2.objs.size #[x1, x2] := s8.extBut _ _ (Nat.ne_of_gt hzl) (s7.extBut _ _ (Nat.ne_of_gt hzl) (Heap.get?_push_size _ rfl))
  have y8 : e8.objs.size = g2.objs.size + 1 := by rw [s8.1, s7.1, Heap.size_push]
  rw [Z2] at z8 t8 y8
  refine wpAny_pure ⟨_, rfl, ?_⟩
  show Q (.ref g2.objs.size) _
  rw [Z2]
  exact hQ e8 z8 (up _ _ D.TOz T2) (N1_2.at fun o e => up _ o D.i1z e) (N2_2.at fun o e => up _ o D.i2z e) t8 y8 fun c o c0 c1 c2 c3 e => up c o c0 (K2 c o c0 c1 c2 c3 e)
theorem zip2_end {z TI TO i1 i2 l1 l2 : Addr} {k1 k2 : Bool} {p : Nat} {xs1 xs2 : Array Value} {o1 o2 : Value} {Q : Fin → Shared → Prop} (hh : A.handled = none) (D : ZA2 z TI TO i1 i2 l1 l2) (hz : IsZip s.heap z TI TO .none) (hTI : IsT s.heap TI #[.ref i1, .ref i2]) (hTO : IsT s.heap TO #[o1, o2]) (h1 : SIt s.heap k1 i1 l1 p) (hl1 : SSrc s.heap k1 l1 xs1) (h2 : SIt s.heap k2 i2 l2 p) (hl2 : SSrc s.heap k2 l2 xs2) (hend : xs1[p]? = none ∨ xs2[p]? = none)
    (hE : ∀ h' e, (∀ c o, c ≠ z → c ≠ TO → c ≠ i1 → c ≠ i2 → s.heap.get? c = some o → h'.get? c = some o) → (∃ o, h'.get? e = some o ∧ o.cls = .type "StopIteration") → E (.ref e) { s with heap := h' }) :
    wpAny (model prog w) A (Builtin.«zip.__next__» ⟨[.ref z], []⟩) Q E s := by
  show wpAny _ _ (field (.ref z) 2 >>= _) _ _ _
  refine wpAny_bind (wpAny_field hz rfl (x := .bool false) rfl ?_)
  show wpAny _ _ (field (.ref z) 3 >>= _) _ _ _
  refine wpAny_bind (wpAny_field hz rfl (x := .ref TI) rfl ?_)
  refine wpAny_bind (wpAny_seqItems hTI rfl ?_)
  show wpAny _ _ (Builtin.SmallTypes.ownedTupleIsFree (.ref z) >>= _) _ _ _
  refine wpAny_bind ?_
  unfold Builtin.SmallTypes.ownedTupleIsFree
  refine wpAny_bind (wpAny_field hz rfl (x := .none) rfl (wpAny_pure ?_))
  simp only [if_true]
  refine wpAny_bind (wpAny_rule ?_)
  refine wpAny_bind (wpAny_field hz rfl (x := .ref TO) rfl ?_)
  refine wpAny_bind (wpAny_setField_rec hz (by simp) fun g0 zz0 s0 => ?_)
  replace zz0 : IsZip g0 z TI TO .ellipsis := zz0
  have K0 : ∀ c o, c ≠ z → s.heap.get? c = some o → g0.get? c = some o := fun c o c1 e => s0.extBut _ _ c1 e
  have T0 : IsT g0 TO #[o1, o2] := K0 _ _ D.TOz hTO
  have Z0 : g0.objs.size = s.heap.objs.size := s0.1
  refine wpAny_bind ?_
  simp only [List.zipIdx_cons, List.zipIdx_nil, List.forIn_cons, List.forIn_nil]
  refine wpAny_bind (wpAny_bind (wpAny_onRaise ?_))
  show wpAny _ _ (Builtin.SmallTypes.nextOf (.ref i1) >>= _) _ _ _
  have I1 : SIt g0 k1 i1 l1 p := h1.at fun o e => K0 _ o (D.i1z) e
  have L1 : SSrc g0 k1 l1 xs1 := hl1.at fun o e => K0 _ o (D.l1z) e
  cases hx1 : xs1[p]? with
  | none =>
    refine wpAny_bind (nextS_end hh I1 L1 hx1 fun ae e xe he => ?_)
    obtain ⟨oe, hoe, hce⟩ := he
    have ze : IsZip ae z TI TO .ellipsis := xe _ _ (D.i1z.symm) zz0
    have hez : e ≠ z := fun q => by subst q; rw [ze] at hoe; cases hoe; simp at hce
    refine wpAny_setField_rec ze (by simp) fun be _ sb => hE be e (fun c o c0 c1 c2 c3 q => sb.extBut _ _ c0 (xe _ _ c2 (K0 c o c0 q))) ⟨oe, sb.extBut _ _ hez hoe, hce⟩
  | some x1 =>
    refine wpAny_bind (nextS_item I1 L1 hx1 fun a1 n1 sa1 => wpAny_pure ?_)
    have Ta1 : IsT a1 TO #[o1, o2] := sa1.extBut _ _ (D.TOi1) T0
    refine wpAny_bind (wpAny_seqItems Ta1 rfl ?_)
    refine wpAny_bind (updT Ta1 (by simp) fun g1 T1 st1 => ?_)
    replace T1 : IsT g1 TO #[x1, o2] := T1
    have K1 : ∀ c o, c ≠ z → c ≠ TO → c ≠ i1 → s.heap.get? c = some o → g1.get? c = some o := fun c o c0 c1 c2 e => st1.extBut _ _ c1 (sa1.extBut _ _ c2 (K0 c o c0 e))
    have zz1 : IsZip g1 z TI TO .ellipsis := st1.extBut _ _ (D.TOz.symm) (sa1.extBut _ _ (D.i1z.symm) zz0)
    have Z1 : g1.objs.size = s.heap.objs.size := by rw [st1.1, sa1.1, Z0]
    have N1_1 : SIt g1 k1 i1 l1 (p + 1) := n1.at fun o e => st1.extBut _ _ (D.TOi1.symm) e
    refine wpAny_bind (wpAny_letGo (wpAny_pure ?_))
    refine wpAny_bind (wpAny_bind (wpAny_onRaise ?_))
    show wpAny _ _ (Builtin.SmallTypes.nextOf (.ref i2) >>= _) _ _ _
    have I2 : SIt g1 k2 i2 l2 p := h2.at fun o e => K1 _ o (D.i2z) (D.TOi2.symm) (D.i1i2.symm) e
    have L2 : SSrc g1 k2 l2 xs2 := hl2.at fun o e => K1 _ o (D.l2z) (D.l2TO) (D.l2i1) e
    cases hx2 : xs2[p]? with
    | none =>
      refine wpAny_bind (nextS_end hh I2 L2 hx2 fun ae e xe he => ?_)
      obtain ⟨oe, hoe, hce⟩ := he
      have ze : IsZip ae z TI TO .ellipsis := xe _ _ (D.i2z.symm) zz1
      have hez : e ≠ z := fun q => by subst q; rw [ze] at hoe; cases hoe; simp at hce
      refine wpAny_setField_rec ze (by simp) fun be _ sb => hE be e (fun c o c0 c1 c2 c3 q => sb.extBut _ _ c0 (xe _ _ c3 (K1 c o c0 c1 c2 q))) ⟨oe, sb.extBut _ _ hez hoe, hce⟩
    | some x2 =>
      rcases hend with q | q
      · rw [hx1] at q; cases q
      · rw [hx2] at q; cases q
theorem pyNext_zip2 {z TI TO i1 i2 l1 l2 : Addr} {k1 k2 : Bool} {p : Nat} {xs1 xs2 : Array Value} {x1 x2 o1 o2 : Value} {Q : Option Value → Shared → Prop} (D : ZA2 z TI TO i1 i2 l1 l2) (hz : IsZip s.heap z TI TO .none) (hTI : IsT s.heap TI #[.ref i1, .ref i2]) (hTO : IsT s.heap TO #[o1, o2]) (h1 : SIt s.heap k1 i1 l1 p) (hl1 : SSrc s.heap k1 l1 xs1) (h2 : SIt s.heap k2 i2 l2 p) (hl2 : SSrc s.heap k2 l2 xs2) (hx1 : xs1[p]? = some x1) (hx2 : xs2[p]? = some x2)
    (hQ : ∀ h', IsZip h' z TI TO (rawInt s.heap.objs.size) → IsT h' TO #[x1, x2] → SIt h' k1 i1 l1 (p + 1) → SIt h' k2 i2 l2 (p + 1) → IsT h' s.heap.objs.size #[x1, x2] → h'.objs.size = s.heap.objs.size + 1 → (∀ c o, c ≠ z → c ≠ TO → c ≠ i1 → c ≠ i2 → s.heap.get? c = some o → h'.get? c = some o) → Q (some (.ref s.heap.objs.size)) { s with heap := h' }) :
    wpAny (model prog w) A (pyNext (.ref z)) Q E s := by
  have hT : s.TypeIs (.ref z) "zip" := ⟨_, hz, rfl⟩
  unfold pyNext
  exact wpAny_bind (wpAny_attempt (wpAny_callSpecial?_slot (name := Str.ofString "__next__") hT F.slot_zip_next (wpAny_call_entry F.slot_zip_next hT F.entry_zip_next (zip2_item D hz hTI hTO h1 hl1 h2 hl2 hx1 hx2 fun h' a0 a1 a2 a3 a4 a5 a6 => wpAny_pure (hQ h' a0 a1 a2 a3 a4 a5 a6)) (F.args_zip_next_1 _))))
theorem pyNext_zip2_end {z TI TO i1 i2 l1 l2 : Addr} {k1 k2 : Bool} {p : Nat} {xs1 xs2 : Array Value} {o1 o2 : Value} {Q : Option Value → Shared → Prop} (hh : A.handled = none) (D : ZA2 z TI TO i1 i2 l1 l2) (hz : IsZip s.heap z TI TO .none) (hTI : IsT s.heap TI #[.ref i1, .ref i2]) (hTO : IsT s.heap TO #[o1, o2]) (h1 : SIt s.heap k1 i1 l1 p) (hl1 : SSrc s.heap k1 l1 xs1) (h2 : SIt s.heap k2 i2 l2 p) (hl2 : SSrc s.heap k2 l2 xs2) (hend : xs1[p]? = none ∨ xs2[p]? = none)
    (hQ : ∀ h', (∀ c o, c ≠ z → c ≠ TO → c ≠ i1 → c ≠ i2 → s.heap.get? c = some o → h'.get? c = some o) → Q none { s with heap := h' }) : wpAny (model prog w) A (pyNext (.ref z)) Q E s := by
  have hT : s.TypeIs (.ref z) "zip" := ⟨_, hz, rfl⟩
  unfold pyNext
  refine wpAny_bind (wpAny_attempt (wpAny_callSpecial?_slot (name := Str.ofString "__next__") hT F.slot_zip_next (wpAny_call_entry F.slot_zip_next hT F.entry_zip_next (zip2_end hh D hz hTI hTO h1 hl1 h2 hl2 hend fun h' e hk he => ?_) (F.args_zip_next_1 _))))
  obtain ⟨o, ho, hc⟩ := he
  refine wpAny_bind (wpAny_isInstance (T := "StopIteration") (b := true) ⟨o, ho, hc⟩ isSubtype_stop ?_)
  exact wpAny_pure (hQ _ hk)
end
abbrev zH2_1 (h : Heap) (k1 : Bool) (l1 : Addr) : Heap := h.push { cls := .type (clsI k1), data := .fields #[.ref l1, .int 0 0] }
abbrev zH2_2 (h : Heap) (k1 k2 : Bool) (l1 l2 : Addr) : Heap := (zH2_1 h k1 l1).push { cls := .type (clsI k2), data := .fields #[.ref l2, .int 0 0] }
abbrev zH2_T (h : Heap) (k1 k2 : Bool) (l1 l2 : Addr) : Heap := (zH2_2 h k1 k2 l1 l2).push { cls := .type "tuple", data := .seq #[.ref h.objs.size, .ref (zH2_1 h k1 l1).objs.size] }
abbrev zH2_O (h : Heap) (k1 k2 : Bool) (l1 l2 : Addr) : Heap := (zH2_T h k1 k2 l1 l2).push { cls := .type "tuple", data := .seq #[.none, .none] }
abbrev zH2_Z (h : Heap) (k1 k2 : Bool) (l1 l2 : Addr) : Heap := (zH2_O h k1 k2 l1 l2).push { cls := .type "zip", data := .fields #[.none, .bool false, .bool false, .ref (zH2_2 h k1 k2 l1 l2).objs.size, .ref (zH2_T h k1 k2 l1 l2).objs.size] }
theorem meets_zip2 (k1 k2 : Bool) (l1 l2 : Addr) (xs1 xs2 : Array Value) :
    Meets (Builtin.«zip.__new__» ⟨[.type "zip", .ref l1, .ref l2], []⟩) (fun _ R s => (SSrc s.heap k1 l1 xs1 ∧ SSrc s.heap k2 l2 xs2) ∧ R (.ok (.ret (.ref (zH2_O s.heap k1 k2 l1 l2).objs.size))) { s with heap := zH2_Z s.heap k1 k2 l1 l2 }) :=
  .of_wp fun prog w A R s h => by
    obtain ⟨hp, g, d, tk, os⟩ := s; obtain ⟨⟨hl1, hl2⟩, h⟩ := h
    have hsub := sub_zip
    have M1 : SSrc (Shared.heap ⟨hp, g, d, tk, os⟩) k1 l1 xs1 := hl1
    have M2 : SSrc (Shared.heap ⟨(hp.push { cls := .type (clsI k1), data := .fields #[.ref l1, .int 0 0] }), g, d, tk, os⟩) k2 l2 xs2 := hl2.at fun o e => Heap.get?_push_of_some _ (e)
    wp_walk using iterS M1, iterS M2
    exact ⟨_, rfl, h⟩
theorem tc_zip2 (a1 a2 : Value) : checkTypeCall "zip" ⟨[a1, a2], []⟩ = pure () := by kernel_rfl
theorem nc_zip2 (a1 a2 : Value) : checkBuiltinCall "zip.__new__" ⟨[.type "zip", a1, a2], []⟩ = pure () := by kernel_rfl
theorem ai_zip2 (b a1 a2 : Value) : argsOk "object.__init__" ⟨[b, a1, a2], []⟩ := by
  unfold argsOk; rw [signature?_of (id := "object.__init__") (n := ['_', '_', 't', 'i', 'n', 'i', '_', '_']) (o := ['t', 'c', 'e', 'j', 'b', 'o']) (by kernel_rfl) F.owner_object]; kernel_rfl
section
variable {prog : Program} {w : World} {A : Around} {E : Value → Shared → Prop} {s : Shared}
theorem call_zip2 {k1 k2 : Bool} {l1 l2 : Addr} {xs1 xs2 : Array Value} {Q : Value → Shared → Prop} (hl1 : SSrc s.heap k1 l1 xs1) (hl2 : SSrc s.heap k2 l2 xs2)
    (h : ∀ h', IsZip h' (s.heap.objs.size + 4) (s.heap.objs.size + 2) (s.heap.objs.size + 3) .none → IsT h' (s.heap.objs.size + 2) #[.ref s.heap.objs.size, .ref (s.heap.objs.size + 1)] → IsT h' (s.heap.objs.size + 3) #[.none, .none] → SIt h' k1 s.heap.objs.size l1 0 → SIt h' k2 (s.heap.objs.size + 1) l2 0 → (∀ c o, s.heap.get? c = some o → h'.get? c = some o) → Q (.ref (s.heap.objs.size + 4)) { s with heap := h' }) :
    wpAny (model prog w) A (call (.type "zip") [.ref l1, .ref l2]) Q E s := by
  refine callType_new F.called_zip (by decide) (tc_zip2 _ _ ) (nc_zip2 _ _ ) (fun obj => ai_zip2 obj _ _ ) F.entry_zip_new (meets_zip2 k1 k2 l1 l2 xs1 xs2) ⟨⟨hl1, hl2⟩, ?_⟩
  have y1 : (zH2_1 s.heap k1 l1).objs.size = s.heap.objs.size + 1 := Heap.size_push ..
  have y2 : (zH2_2 s.heap k1 k2 l1 l2).objs.size = s.heap.objs.size + 2 := by rw [Heap.size_push, y1]
  have y3 : (zH2_T s.heap k1 k2 l1 l2).objs.size = s.heap.objs.size + 3 := by rw [Heap.size_push, y2]
  have y4 : (zH2_O s.heap k1 k2 l1 l2).objs.size = s.heap.objs.size + 4 := by rw [Heap.size_push, y3]
  have q0 : (zH2_Z s.heap k1 k2 l1 l2).get? s.heap.objs.size = some _ := Heap.get?_push_of_some _ (Heap.get?_push_of_some _ (Heap.get?_push_of_some _ (Heap.get?_push_of_some _ (Heap.get?_push_size _ rfl))))
  have q1 : (zH2_Z s.heap k1 k2 l1 l2).get? (zH2_1 s.heap k1 l1).objs.size = some _ := Heap.get?_push_of_some _ (Heap.get?_push_of_some _ (Heap.get?_push_of_some _ (Heap.get?_push_size _ rfl)))
  have q2 : (zH2_Z s.heap k1 k2 l1 l2).get? (zH2_2 s.heap k1 k2 l1 l2).objs.size = some _ := Heap.get?_push_of_some _ (Heap.get?_push_of_some _ (Heap.get?_push_size _ rfl))
  have q3 : (zH2_Z s.heap k1 k2 l1 l2).get? (zH2_T s.heap k1 k2 l1 l2).objs.size = some _ := Heap.get?_push_of_some _ (Heap.get?_push_size _ rfl)
  have q4 : (zH2_Z s.heap k1 k2 l1 l2).get? (zH2_O s.heap k1 k2 l1 l2).objs.size = some _ := Heap.get?_push_size _ rfl
  show _ ∧ _
  rw [y1] at q1
  rw [y1, y2] at q2
  rw [y3] at q3
  rw [y2, y3, y4] at q4
  rw [y4]
  exact ⟨⟨_, q4, rfl⟩, h _ q4 q2 q3 (show SIt _ k1 _ l1 0 by cases k1 <;> exact ⟨_, q0, rfl, rfl⟩) (show SIt _ k2 _ l2 0 by cases k2 <;> exact ⟨_, q1, rfl, rfl⟩) fun c o x => Heap.get?_push_of_some _ (Heap.get?_push_of_some _ (Heap.get?_push_of_some _ (Heap.get?_push_of_some _ (Heap.get?_push_of_some _ (x)))))⟩
theorem za2 {I l1 l2 : Nat} (e1 : l1 < I) (e2 : l2 < I) : ZA2 (I + 4) (I + 2) (I + 3) I (I + 1) l1 l2 := by
  constructor <;> (refine Nat.ne_iff_lt_or_gt.mpr ?_; omega)
end
/-- what stands at a: a list or a tuple -/
def SqS (K : PySem.W.Frag) (H : Hp) (k : Bool) (a : Addr) (xs : List V) : Prop := match k with
  | true => SqL K H a xs
  | false => SqT K H a xs
theorem SqS.keep {K : PySem.W.Frag} {H H' : Hp} {k : Bool} {a : Addr} {xs : List V} (e : Same H H') (h : SqS K H k a xs) : SqS K H' k a xs := by
  cases k with
  | true => exact e.seq (show SqL K H a xs from h)
  | false => exact Same.sqT e (show SqT K H a xs from h)
section
variable {X : Cx} {pins : List (Addr × Obj)} {σ : L2.St} {H : Hp} {s : Shared}
theorem Inv.srcS (I : L2.Inv X pins σ H s) {k : Bool} {a : Addr} {xs : List V} (h : SqS X.K H k a xs) : ∃ its : List Value, Vals xs its ∧ SSrc s.heap k a its.toArray := by
  cases k with
  | true =>
    obtain ⟨its, rv, p, _⟩ := I.list (show SqL X.K H a xs from h)
    exact ⟨its, rv, p.isList⟩
  | false =>
    obtain ⟨its, rv, p, _⟩ := I.tuple (show SqT X.K H a xs from h)
    exact ⟨its, rv, p⟩
end
/-- the items of things that stand, turn by turn, in new tuples -/
def ItZ2 (K : PySem.W.Frag) (k1 k2 : Bool) (l1 l2 : Addr) (ys1 ys2 : List V) : It :=
  ⟨fun i H => (SqS K H k1 l1 ys1 ∧ SqS K H k2 l2 ys2) ∧ i < ys1.length ∧ i < ys2.length, fun i H v H' => ∃ (T : Addr) (x1 x2 : V), v = .ref T ∧ H T = none ∧ H' = upd H T (.tup [x1, x2]) ∧ ys1[i]? = some x1 ∧ ys2[i]? = some x2, fun i H => (SqS K H k1 l1 ys1 ∧ SqS K H k2 l2 ys2) ∧ (ys1.length ≤ i ∨ ys2.length ≤ i)⟩
theorem turn_z2 {P : Program} {w : World} {K : PySem.W.Frag} {elts : List Expr} {kk : Nat} {tpos : Pos} {z TI TO i1 i2 l1 l2 : Addr} {k1 k2 : Bool} {ys1 ys2 : List V} (D : ZA2 z TI TO i1 i2 l1 l2) :
    Turn P w K (.Tuple elts kk tpos) (ItZ2 K k1 k2 l1 l2 ys1 ys2) [z, TI, TO, i1, i2] z (fun i h => IsZip h z TI TO .none ∧ IsT h TI #[.ref i1, .ref i2] ∧ (∃ o1 o2 : Value, IsT h TO #[o1, o2]) ∧ SIt h k1 i1 l1 i ∧ SIt h k2 i2 l2 i) where
  mem := by simp
  obj := fun i h ⟨hz, hTI, ⟨o1, o2, hTO⟩, h1, h2⟩ c hc => by
    have e' : c = z ∨ c = TI ∨ c = TO ∨ c = i1 ∨ c = i2 := by simpa using hc
    rcases e' with q | q | q | q | q
    · rw [q]; exact ⟨_, hz, fun v q => nomatch q⟩
    · rw [q]; exact ⟨_, hTI, fun v q => nomatch q⟩
    · rw [q]; exact ⟨_, hTO, fun v q => nomatch q⟩
    · rw [q]; exact h1.ob
    · rw [q]; exact h2.ob
  keep := fun i h h' ⟨hz, hTI, ⟨o1, o2, hTO⟩, h1, h2⟩ k => ⟨k z (by simp) _ hz, k TI (by simp) _ hTI, ⟨o1, o2, k TO (by simp) _ hTO⟩, h1.at fun o q => k i1 (by simp) o q, h2.at fun o q => k i2 (by simp) o q⟩
  item := by
    intro X hP hw hK hc i pins s σ H E I hf st hg
    subst hP hw hK
    obtain ⟨hz, hTI, ⟨o1, o2, hTO⟩, h1, h2⟩ := st
    obtain ⟨⟨q1, q2⟩, b1, b2⟩ := hg
    obtain ⟨its1, rv1, p1⟩ := Inv.srcS I q1
    have hx1 : ys1[i]? = some (ys1[i]'b1) := List.getElem?_eq_getElem b1
    generalize ys1[i]'b1 = x1 at hx1
    obtain ⟨u1, hu1, ru1⟩ := rv1.get hx1
    obtain ⟨its2, rv2, p2⟩ := Inv.srcS I q2
    have hx2 : ys2[i]? = some (ys2[i]'b2) := List.getElem?_eq_getElem b2
    generalize ys2[i]'b2 = x2 at hx2
    obtain ⟨u2, hu2, ru2⟩ := rv2.get hx2
    have hzl : z < s.heap.objs.size := Heap.lt_size hz
    refine pyNext_zip2 D hz hTI hTO h1 p1 h2 p2 (by simpa using hu1) (by simpa using hu2) fun h' z' TO' n1 n2 hT hsz hk => ?_
    refine ⟨_, rfl, wpAny_letOwnedTupleGo_zip (s := { s with heap := h' }) z' fun hq z2 sb => ?_⟩
    have hT2 : IsT hq s.heap.objs.size #[u1, u2] := (sb.2 _ (Nat.ne_of_gt hzl)).trans hT
    have new : ObjOk X.prog X.w (upd H s.heap.objs.size (.tup [x1, x2])) hq s.heap.objs.size (.tup [x1, x2]) :=
      ⟨by show 2 ≤ sizeLine; decide, [u1, u2], .cons ru1 (.cons ru2 (.nil)), ⟨_, hT2, rfl, _, rfl⟩⟩
    have I1 : L2.Inv X pins σ (upd H s.heap.objs.size (.tup [x1, x2])) { s with heap := hq } :=
      I.turnedNew (t' := s.toks) (ch := [z, TI, TO, i1, i2]) (fun c o hb q => (sb.2 c (fun q' => hb (by simp [q']))).trans (hk c o (fun q' => hb (by simp [q'])) (fun q' => hb (by simp [q'])) (fun q' => hb (by simp [q'])) (fun q' => hb (by simp [q'])) q)) hf (Nat.le_refl _) new
    refine ⟨.ref s.heap.objs.size, _, I1, rfl, ⟨_, x1, x2, rfl, I.hok.fresh (Nat.le_refl _), rfl, hx1, hx2⟩, ⟨z2, ?_, ⟨u1, u2, ?_⟩, ?_, ?_⟩, fun c hcm => ?_⟩
    · exact (sb.2 _ D.TIz).trans (hk _ _ D.TIz D.TITO D.TIi1 D.TIi2 hTI)
    · exact (sb.2 _ D.TOz).trans TO'
    · exact n1.at fun o q => (sb.2 _ D.i1z).trans q
    · exact n2.at fun o q => (sb.2 _ D.i2z).trans q
    · have hlt : c < s.heap.objs.size := by
        have e' : c = z ∨ c = TI ∨ c = TO ∨ c = i1 ∨ c = i2 := by simpa using hcm
        rcases e' with q | q | q | q | q
        · rw [q]; exact hzl
        · rw [q]; exact Heap.lt_size hTI
        · rw [q]; exact Heap.lt_size hTO
        · rw [q]; exact h1.lt
        · rw [q]; exact h2.lt
      rw [upd_ne (Nat.ne_of_lt hlt)]
      exact (hf c hcm).1
  done := by
    intro X hP hw hK hc i pins s σ H E I hf st hg
    subst hP hw hK
    obtain ⟨hz, hTI, ⟨o1, o2, hTO⟩, h1, h2⟩ := st
    obtain ⟨⟨q1, q2⟩, hend⟩ := hg
    obtain ⟨its1, rv1, p1⟩ := Inv.srcS I q1
    have e1 := rv1.length
    obtain ⟨its2, rv2, p2⟩ := Inv.srcS I q2
    have e2 := rv2.length
    have he : its1.toArray[i]? = none ∨ its2.toArray[i]? = none := by
      rcases hend with q | q
      · exact .inl (by simp; omega)
      · exact .inr (by simp; omega)
    exact pyNext_zip2_end (I.ok.hd hc) D hz hTI hTO h1 p1 h2 p2 he fun h' hk => ⟨rfl, I.turnedL (t' := s.toks) (ch := [z, TI, TO, i1, i2]) (fun c o hb q => hk c o (fun q' => hb (by simp [q'])) (fun q' => hb (by simp [q'])) (fun q' => hb (by simp [q'])) (fun q' => hb (by simp [q'])) q) hf⟩
  self := fun A i s Q E st h => wpAny_pyIter_zip st.1 h
def iZ2 (K : PySem.W.Frag) (ta : TA) : TI := fun σ H R => ta σ H fun vs H1 => ∃ (k1 k2 : Bool) (l1 l2 : Addr) (ys1 ys2 : List V), vs = [.ref l1, .ref l2] ∧ (SqS K H1 k1 l1 ys1 ∧ SqS K H1 k2 l2 ys2) ∧ R (ItZ2 K k1 k2 l1 l2 ys1 ys2) H1
theorem pi_z2 {X : Cx} {e1 e2 : Expr} {ta : TA} {p pos tpos : Pos} {elts : List Expr} {kk : Nat} (hg : Gl X "zip") (hm : X.mg "zip" = none) (ha : PA X [e1, e2] ta)
    (hs : starEach [e1, e2] X.env = (false, eval e1 X.env) :: starEach [e2] X.env := by rfl) (hpl : (backTo pos (starEach [e2] X.env)).any (·.1) = false := by rfl) :
    PI X (.Tuple elts kk tpos) (.Call (.Name "zip" p) [e1, e2] [] pos) (iZ2 X.K ta) := by
  refine ⟨fun pins s σ H R I h => ?_⟩
  refine Call_ (ld_blt I hg hm PyProof.Rows.boot_zip (PyProof.Rows.callWith_type1 (thn (ha.run pos pins s σ H _ I h) fun us s1 ⟨vs, H1, I1, r1, q1⟩ => ?_) hs hpl))
  obtain ⟨k1, k2, l1, l2, ys1, ys2, ex, ⟨q1, q2⟩, q⟩ := q1
  subst ex
  cases r1 with
  | cons r1v rr =>
    cases rr with
    | cons r2v rr =>
      cases rr
      cases r1v
      cases r2v
      obtain ⟨its1, rv1, p1⟩ := Inv.srcS I1 q1
      obtain ⟨its2, rv2, p2⟩ := Inv.srcS I1 q2
      have fresh : ∀ c, c ∈ ([s1.heap.objs.size + 4, s1.heap.objs.size + 2, s1.heap.objs.size + 3, s1.heap.objs.size, s1.heap.objs.size + 1] : List Addr) → FpOk X pins H1 c := fun c hcm => by
        have e' : c = s1.heap.objs.size + 4 ∨ c = s1.heap.objs.size + 2 ∨ c = s1.heap.objs.size + 3 ∨ c = s1.heap.objs.size ∨ c = s1.heap.objs.size + 1 := by simpa using hcm
        have hle : s1.heap.objs.size ≤ c := by rcases e' with z | z | z | z | z <;> (rw [z]; first | exact Nat.le_refl _ | exact Nat.le_add_right _ _)
        exact I1.fpOk hle (I1.hok.fresh hle)
      refine call_zip2 p1 p2 fun h' hz hTI hTO n1 n2 hk => wpAny_pyIter_zip hz ?_
      have I2 : L2.Inv X pins σ H1 { s1 with heap := h' } := I1.kept (t' := s1.toks) hk
      exact ⟨s1.heap.objs.size + 4, [s1.heap.objs.size + 4, s1.heap.objs.size + 2, s1.heap.objs.size + 3, s1.heap.objs.size, s1.heap.objs.size + 1], _, _, H1, rfl, I2, turn_z2 (za2 p1.lt p2.lt), ⟨hz, hTI, ⟨_, _, hTO⟩, n1, n2⟩, fresh, q⟩
/-- a datum's items, by their places -/
def seqQ : D → Option (List D)
  | .lst xs => some xs
  | .tup xs => some xs
  | .scr ns => some (ns.map D.int)
  | _ => none
theorem seqQ_rep {G : GC} {F H : Hp} {v : V} {d : D} {ds : List D} (s : Same F H) (r : Rep G F v d) (e : seqQ d = some ds) : ∃ k a ys, v = .ref a ∧ SqS G.K H k a ys ∧ RepAll G F ys ds := by
  cases r with
  | tup h ra => cases e; exact ⟨false, _, _, rfl, Same.sqT s h, ra⟩
  | lst h ra => cases e; exact ⟨true, _, _, rfl, .of (s _ _ h), ra⟩
  | scr h => cases e; exact ⟨true, _, _, rfl, s.seq h, ints_rep _⟩
  | _ => cases e
def zipL2 (xs ys : List D) : List D := (xs.zip ys).map fun p => .tup [p.1, p.2]
def zipL3 (xs ys zs : List D) : List D := (xs.zip (ys.zip zs)).map fun p => .tup [p.1, p.2.1, p.2.2]
def zip2D : List D → Res (List D)
  | [a, b] => match seqQ a, seqQ b with
    | some xs, some ys => .ok (zipL2 xs ys)
    | _, _ => .bad
  | _ => .bad
def zip3D : List D → Res (List D)
  | [a, b, c] => match seqQ a, seqQ b, seqQ c with
    | some xs, some ys, some zs => .ok (zipL3 xs ys zs)
    | _, _, _ => .bad
  | _ => .bad
theorem zip2D_inv (ds : List D) : (∃ a b xs ys, ds = [a, b] ∧ seqQ a = some xs ∧ seqQ b = some ys ∧ zip2D ds = .ok (zipL2 xs ys)) ∨ zip2D ds = .bad := by
  unfold zip2D
  split
  · rename_i a b
    split
    · rename_i xs ys h1 h2; exact .inl ⟨a, b, xs, ys, rfl, h1, h2, rfl⟩
    · exact .inr rfl
  · exact .inr rfl
theorem zip3D_inv (ds : List D) : (∃ a b c xs ys zs, ds = [a, b, c] ∧ seqQ a = some xs ∧ seqQ b = some ys ∧ seqQ c = some zs ∧ zip3D ds = .ok (zipL3 xs ys zs)) ∨ zip3D ds = .bad := by
  unfold zip3D
  split
  · rename_i a b c
    split
    · rename_i xs ys zs h1 h2 h3; exact .inl ⟨a, b, c, xs, ys, zs, rfl, h1, h2, h3, rfl⟩
    · exact .inr rfl
  · exact .inr rfl
theorem WalkD.zip2 {G : GC} {F : Hp} {k1 k2 : Bool} {l1 l2 : Addr} {ys1 ys2 : List V} {d1 d2 : List D} (hs : SqS G.K F k1 l1 ys1 ∧ SqS G.K F k2 l2 ys2) (r1 : RepAll G F ys1 d1) (r2 : RepAll G F ys2 d2) : WalkD G F F (ItZ2 G.K k1 k2 l1 l2 ys1 ys2) (zipL2 d1 d2) where
  goes := fun i H hi s => by
    obtain ⟨q1, q2⟩ := hs
    have w1 := r1.length
    have w2 := r2.length
    simp only [zipL2, List.length_map, List.length_zip] at hi
    exact ⟨⟨q1.keep s, q2.keep s⟩, by omega, by omega⟩
  stops := fun H s => by
    obtain ⟨q1, q2⟩ := hs
    have w1 := r1.length
    have w2 := r2.length
    refine ⟨⟨q1.keep s, q2.keep s⟩, ?_⟩
    simp only [zipL2, List.length_map, List.length_zip]
    omega
  yields := fun i F2 H2 v H3 hi s1 s2 _ ⟨T, x1, x2, e1, e2, e3, g1, g2⟩ => by
    subst e1 e3
    obtain ⟨c1, t1, m1⟩ := r1.getV g1
    obtain ⟨c2, t2, m2⟩ := r2.getV g2
    refine ⟨_, .tup [c1, c2], Grow.mk1 s2 e2, ?_, Rep.tup (.of upd_same) (.cons ((m1.mono s1).mono (Grow.mk1 s2 e2).f) (.cons ((m2.mono s1).mono (Grow.mk1 s2 e2).f) (.nil)))⟩
    unfold zipL2
    have hz : (d1.zip d2)[i]? = some (c1, c2) := List.getElem?_zip_eq_some.mpr ⟨t1, t2⟩
    rw [List.getElem?_map, hz]
    rfl
theorem ri_zip2 {X : Cx} {W : Wi} {e1 e2 : Expr} {p pos tpos : Pos} {elts : List Expr} {kk : Nat} {fa : Env → Res (List D)} (hm : X.mg "zip" = none) (ha : RA X W [e1, e2] fa) (hg : Gl X "zip" := by rfl)
    (hs : starEach [e1, e2] X.env = (false, eval e1 X.env) :: starEach [e2] X.env := by rfl) (hpl : (backTo pos (starEach [e2] X.env)).any (·.1) = false := by rfl) :
    RI X W true (.Tuple elts kk tpos) (.Call (.Name "zip" p) [e1, e2] [] pos) (fun r => fa r >>= zip2D) := by
  refine ⟨fun pins s σ H R I ⟨H0, F0, fp, F, r, m, o⟩ => (pi_z2 hg hm ha hs hpl).run pins s σ H R I ⟨H0, F0, fp, F, r, m, o.bind fun F' H' ds gr o2 vs rv => ?_⟩⟩
  rcases zip2D_inv ds with ⟨a, b, xs, ys, rfl, w1, w2, e⟩ | e
  · rw [e] at o2
    cases rv with
    | cons v1 rr =>
      cases rr with
      | cons v2 rr =>
        cases rr
        obtain ⟨k1, l1, ys1, rfl, q1, r1⟩ := seqQ_rep (Same.refl F') v1 w1
        obtain ⟨k2, l2, ys2, rfl, q2, r2⟩ := seqQ_rep (Same.refl F') v2 w2
        refine ⟨k1, k2, l1, l2, ys1, ys2, rfl, ⟨q1.keep gr.sub, q2.keep gr.sub⟩, o2 F' H' (Grow.refl gr.sub) _ (WalkD.zip2 ⟨q1, q2⟩ r1 r2)⟩
  · rw [e] at o2; exact o2.elim
structure ZA3 (z TI TO i1 i2 i3 l1 l2 l3 : Addr) : Prop where
  TIz : TI ≠ z
  TOz : TO ≠ z
  TITO : TI ≠ TO
  i1z : i1 ≠ z
  TIi1 : TI ≠ i1
  TOi1 : TO ≠ i1
  l1z : l1 ≠ z
  l1TO : l1 ≠ TO
  l1i1 : l1 ≠ i1
  l1i2 : l1 ≠ i2
  i1i2 : i1 ≠ i2
  l1i3 : l1 ≠ i3
  i1i3 : i1 ≠ i3
  i2z : i2 ≠ z
  TIi2 : TI ≠ i2
  TOi2 : TO ≠ i2
  l2z : l2 ≠ z
  l2TO : l2 ≠ TO
  l2i1 : l2 ≠ i1
  l2i2 : l2 ≠ i2
  l2i3 : l2 ≠ i3
  i2i3 : i2 ≠ i3
  i3z : i3 ≠ z
  TIi3 : TI ≠ i3
  TOi3 : TO ≠ i3
  l3z : l3 ≠ z
  l3TO : l3 ≠ TO
  l3i1 : l3 ≠ i1
  l3i2 : l3 ≠ i2
  l3i3 : l3 ≠ i3
section
variable {prog : Program} {w : World} {A : Around} {E : Value → Shared → Prop} {s : Shared}
theorem zip3_item {z TI TO i1 i2 i3 l1 l2 l3 : Addr} {k1 k2 k3 : Bool} {p : Nat} {xs1 xs2 xs3 : Array Value} {x1 x2 x3 o1 o2 o3 : Value} {Q : Value → Shared → Prop} (D : ZA3 z TI TO i1 i2 i3 l1 l2 l3) (hz : IsZip s.heap z TI TO .none) (hTI : IsT s.heap TI #[.ref i1, .ref i2, .ref i3]) (hTO : IsT s.heap TO #[o1, o2, o3]) (h1 : SIt s.heap k1 i1 l1 p) (hl1 : SSrc s.heap k1 l1 xs1) (h2 : SIt s.heap k2 i2 l2 p) (hl2 : SSrc s.heap k2 l2 xs2) (h3 : SIt s.heap k3 i3 l3 p) (hl3 : SSrc s.heap k3 l3 xs3) (hx1 : xs1[p]? = some x1) (hx2 : xs2[p]? = some x2) (hx3 : xs3[p]? = some x3)
    (hQ : ∀ h', IsZip h' z TI TO (rawInt s.heap.objs.size) → IsT h' TO #[x1, x2, x3] → SIt h' k1 i1 l1 (p + 1) → SIt h' k2 i2 l2 (p + 1) → SIt h' k3 i3 l3 (p + 1) → IsT h' s.heap.objs.size #[x1, x2, x3] → h'.objs.size = s.heap.objs.size + 1 → (∀ c o, c ≠ z → c ≠ TO → c ≠ i1 → c ≠ i2 → c ≠ i3 → s.heap.get? c = some o → h'.get? c = some o) → Q (.ref s.heap.objs.size) { s with heap := h' }) :
    wpAny (model prog w) A (Builtin.«zip.__next__» ⟨[.ref z], []⟩) (fun fin s' => ∃ v, fin = .done (.ret v) ∧ Q v s') E s := by
  show wpAny _ _ (field (.ref z) 2 >>= _) _ _ _
  refine wpAny_bind (wpAny_field hz rfl (x := .bool false) rfl ?_)
  show wpAny _ _ (field (.ref z) 3 >>= _) _ _ _
  refine wpAny_bind (wpAny_field hz rfl (x := .ref TI) rfl ?_)
  refine wpAny_bind (wpAny_seqItems hTI rfl ?_)
  show wpAny _ _ (Builtin.SmallTypes.ownedTupleIsFree (.ref z) >>= _) _ _ _
  refine wpAny_bind ?_
  unfold Builtin.SmallTypes.ownedTupleIsFree
  refine wpAny_bind (wpAny_field hz rfl (x := .none) rfl (wpAny_pure ?_))
  simp only [if_true]
  refine wpAny_bind (wpAny_rule ?_)
  refine wpAny_bind (wpAny_field hz rfl (x := .ref TO) rfl ?_)
  refine wpAny_bind (wpAny_setField_rec hz (by simp) fun g0 zz0 s0 => ?_)
  replace zz0 : IsZip g0 z TI TO .ellipsis := zz0
  have K0 : ∀ c o, c ≠ z → s.heap.get? c = some o → g0.get? c = some o := fun c o c1 e => s0.extBut _ _ c1 e
  have T0 : IsT g0 TO #[o1, o2, o3] := K0 _ _ D.TOz hTO
  have Z0 : g0.objs.size = s.heap.objs.size := s0.1
  refine wpAny_bind ?_
  simp only [List.zipIdx_cons, List.zipIdx_nil, List.forIn_cons, List.forIn_nil]
  refine wpAny_bind (wpAny_bind (wpAny_onRaise ?_))
  show wpAny _ _ (Builtin.SmallTypes.nextOf (.ref i1) >>= _) _ _ _
  have I1 : SIt g0 k1 i1 l1 p := h1.at fun o e => K0 _ o (D.i1z) e
  have L1 : SSrc g0 k1 l1 xs1 := hl1.at fun o e => K0 _ o (D.l1z) e
  refine wpAny_bind (nextS_item I1 L1 hx1 fun a1 n1 sa1 => wpAny_pure ?_)
  have Ta1 : IsT a1 TO #[o1, o2, o3] := sa1.extBut _ _ (D.TOi1) T0
  refine wpAny_bind (wpAny_seqItems Ta1 rfl ?_)
  refine wpAny_bind (updT Ta1 (by simp) fun g1 T1 st1 => ?_)
  replace T1 : IsT g1 TO #[x1, o2, o3] := T1
  have K1 : ∀ c o, c ≠ z → c ≠ TO → c ≠ i1 → s.heap.get? c = some o → g1.get? c = some o := fun c o c0 c1 c2 e => st1.extBut _ _ c1 (sa1.extBut _ _ c2 (K0 c o c0 e))
  have zz1 : IsZip g1 z TI TO .ellipsis := st1.extBut _ _ (D.TOz.symm) (sa1.extBut _ _ (D.i1z.symm) zz0)
  have Z1 : g1.objs.size = s.heap.objs.size := by rw [st1.1, sa1.1, Z0]
  have N1_1 : SIt g1 k1 i1 l1 (p + 1) := n1.at fun o e => st1.extBut _ _ (D.TOi1.symm) e
  refine wpAny_bind (wpAny_letGo (wpAny_pure ?_))
  refine wpAny_bind (wpAny_bind (wpAny_onRaise ?_))
  show wpAny _ _ (Builtin.SmallTypes.nextOf (.ref i2) >>= _) _ _ _
  have I2 : SIt g1 k2 i2 l2 p := h2.at fun o e => K1 _ o (D.i2z) (D.TOi2.symm) (D.i1i2.symm) e
  have L2 : SSrc g1 k2 l2 xs2 := hl2.at fun o e => K1 _ o (D.l2z) (D.l2TO) (D.l2i1) e
  refine wpAny_bind (nextS_item I2 L2 hx2 fun a2 n2 sa2 => wpAny_pure ?_)
  have Ta2 : IsT a2 TO #[x1, o2, o3] := sa2.extBut _ _ (D.TOi2) T1
  refine wpAny_bind (wpAny_seqItems Ta2 rfl ?_)
  refine wpAny_bind (updT Ta2 (by simp) fun g2 T2 st2 => ?_)
  replace T2 : IsT g2 TO #[x1, x2, o3] := T2
  have K2 : ∀ c o, c ≠ z → c ≠ TO → c ≠ i1 → c ≠ i2 → s.heap.get? c = some o → g2.get? c = some o := fun c o c0 c1 c2 c3 e => st2.extBut _ _ c1 (sa2.extBut _ _ c3 (K1 c o c0 c1 c2 e))
  have zz2 : IsZip g2 z TI TO .ellipsis := st2.extBut _ _ (D.TOz.symm) (sa2.extBut _ _ (D.i2z.symm) zz1)
  have Z2 : g2.objs.size = s.heap.objs.size := by rw [st2.1, sa2.1, Z1]
  have N2_2 : SIt g2 k2 i2 l2 (p + 1) := n2.at fun o e => st2.extBut _ _ (D.TOi2.symm) e
  have N1_2 : SIt g2 k1 i1 l1 (p + 1) := N1_1.at fun o e => st2.extBut _ _ (D.TOi1.symm) (sa2.extBut _ _ (D.i1i2) e)
  refine wpAny_bind (wpAny_letGo (wpAny_pure ?_))
  refine wpAny_bind (wpAny_bind (wpAny_onRaise ?_))
  show wpAny _ _ (Builtin.SmallTypes.nextOf (.ref i3) >>= _) _ _ _
  have I3 : SIt g2 k3 i3 l3 p := h3.at fun o e => K2 _ o (D.i3z) (D.TOi3.symm) (D.i1i3.symm) (D.i2i3.symm) e
  have L3 : SSrc g2 k3 l3 xs3 := hl3.at fun o e => K2 _ o (D.l3z) (D.l3TO) (D.l3i1) (D.l3i2) e
  refine wpAny_bind (nextS_item I3 L3 hx3 fun a3 n3 sa3 => wpAny_pure ?_)
  have Ta3 : IsT a3 TO #[x1, x2, o3] := sa3.extBut _ _ (D.TOi3) T2
  refine wpAny_bind (wpAny_seqItems Ta3 rfl ?_)
  refine wpAny_bind (updT Ta3 (by simp) fun g3 T3 st3 => ?_)
  replace T3 : IsT g3 TO #[x1, x2, x3] := T3
  have K3 : ∀ c o, c ≠ z → c ≠ TO → c ≠ i1 → c ≠ i2 → c ≠ i3 → s.heap.get? c = some o → g3.get? c = some o := fun c o c0 c1 c2 c3 c4 e => st3.extBut _ _ c1 (sa3.extBut _ _ c4 (K2 c o c0 c1 c2 c3 e))
  have zz3 : IsZip g3 z TI TO .ellipsis := st3.extBut _ _ (D.TOz.symm) (sa3.extBut _ _ (D.i3z.symm) zz2)
  have Z3 : g3.objs.size = s.heap.objs.size := by rw [st3.1, sa3.1, Z2]
  have N3_3 : SIt g3 k3 i3 l3 (p + 1) := n3.at fun o e => st3.extBut _ _ (D.TOi3.symm) e
  have N1_3 : SIt g3 k1 i1 l1 (p + 1) := N1_2.at fun o e => st3.extBut _ _ (D.TOi1.symm) (sa3.extBut _ _ (D.i1i3) e)
  have N2_3 : SIt g3 k2 i2 l2 (p + 1) := N2_2.at fun o e => st3.extBut _ _ (D.TOi2.symm) (sa3.extBut _ _ (D.i2i3) e)
  refine wpAny_bind (wpAny_letGo (wpAny_pure (wpAny_pure ?_)))
  refine wpAny_bind (wpAny_seqItems T3 rfl ?_)
  refine wpAny_bind (wpAny_newTuple ?_)
  show wpAny _ _ (Builtin.SmallTypes.ownedTupleHandOut (.ref z) (.ref g3.objs.size) >>= _) _ _ _
  refine wpAny_bind ?_
  unfold Builtin.SmallTypes.ownedTupleHandOut
  have hzl : z < g3.objs.size := Heap.lt_size zz3
  have zp : IsZip (g3.push { cls := .type "tuple", data := .seq #[x1, x2, x3] }) z TI TO .ellipsis := Heap.get?_push_of_some _ zz3
  refine wpAny_bind (wpAny_setField_rec zp (by simp) fun e7 z7 s7 => ?_)
  replace z7 : IsZip e7 z TI TO (rawInt g3.objs.size) := z7
  refine wpAny_setField_rec z7 (by simp) fun e8 z8 s8 => ?_
  replace z8 : IsZip e8 z TI TO (rawInt g3.objs.size) := z8
  have up : ∀ c o, c ≠ z → g3.get? c = some o → e8.get? c = some o := fun c o c1 e => s8.extBut _ _ c1 (s7.extBut _ _ c1 (Heap.get?_push_of_some _ e))
  have t8 : IsT e8 g3.objs.size #[x1, x2, x3] := s8.extBut _ _ (Nat.ne_of_gt hzl) (s7.extBut _ _ (Nat.ne_of_gt hzl) (Heap.get?_push_size _ rfl))
  have y8 : e8.objs.size = g3.objs.size + 1 := by rw [s8.1, s7.1, Heap.size_push]
  rw [Z3] at z8 t8 y8
  refine wpAny_pure ⟨_, rfl, ?_⟩
  show Q (.ref g3.objs.size) _
  rw [Z3]
  exact hQ e8 z8 (up _ _ D.TOz T3) (N1_3.at fun o e => up _ o D.i1z e) (N2_3.at fun o e => up _ o D.i2z e) (N3_3.at fun o e => up _ o D.i3z e) t8 y8 fun c o c0 c1 c2 c3 c4 e => up c o c0 (K3 c o c0 c1 c2 c3 c4 e)
theorem zip3_end {z TI TO i1 i2 i3 l1 l2 l3 : Addr} {k1 k2 k3 : Bool} {p : Nat} {xs1 xs2 xs3 : Array Value} {o1 o2 o3 : Value} {Q : Fin → Shared → Prop} (hh : A.handled = none) (D : ZA3 z TI TO i1 i2 i3 l1 l2 l3) (hz : IsZip s.heap z TI TO .none) (hTI : IsT s.heap TI #[.ref i1, .ref i2, .ref i3]) (hTO : IsT s.heap TO #[o1, o2, o3]) (h1 : SIt s.heap k1 i1 l1 p) (hl1 : SSrc s.heap k1 l1 xs1) (h2 : SIt s.heap k2 i2 l2 p) (hl2 : SSrc s.heap k2 l2 xs2) (h3 : SIt s.heap k3 i3 l3 p) (hl3 : SSrc s.heap k3 l3 xs3) (hend : xs1[p]? = none ∨ xs2[p]? = none ∨ xs3[p]? = none)
    (hE : ∀ h' e, (∀ c o, c ≠ z → c ≠ TO → c ≠ i1 → c ≠ i2 → c ≠ i3 → s.heap.get? c = some o → h'.get? c = some o) → (∃ o, h'.get? e = some o ∧ o.cls = .type "StopIteration") → E (.ref e) { s with heap := h' }) :
    wpAny (model prog w) A (Builtin.«zip.__next__» ⟨[.ref z], []⟩) Q E s := by
  show wpAny _ _ (field (.ref z) 2 >>= _) _ _ _
  refine wpAny_bind (wpAny_field hz rfl (x := .bool false) rfl ?_)
  show wpAny _ _ (field (.ref z) 3 >>= _) _ _ _
  refine wpAny_bind (wpAny_field hz rfl (x := .ref TI) rfl ?_)
  refine wpAny_bind (wpAny_seqItems hTI rfl ?_)
  show wpAny _ _ (Builtin.SmallTypes.ownedTupleIsFree (.ref z) >>= _) _ _ _
  refine wpAny_bind ?_
  unfold Builtin.SmallTypes.ownedTupleIsFree
  refine wpAny_bind (wpAny_field hz rfl (x := .none) rfl (wpAny_pure ?_))
  simp only [if_true]
  refine wpAny_bind (wpAny_rule ?_)
  refine wpAny_bind (wpAny_field hz rfl (x := .ref TO) rfl ?_)
  refine wpAny_bind (wpAny_setField_rec hz (by simp) fun g0 zz0 s0 => ?_)
  replace zz0 : IsZip g0 z TI TO .ellipsis := zz0
  have K0 : ∀ c o, c ≠ z → s.heap.get? c = some o → g0.get? c = some o := fun c o c1 e => s0.extBut _ _ c1 e
  have T0 : IsT g0 TO #[o1, o2, o3] := K0 _ _ D.TOz hTO
  have Z0 : g0.objs.size = s.heap.objs.size := s0.1
  refine wpAny_bind ?_
  simp only [List.zipIdx_cons, List.zipIdx_nil, List.forIn_cons, List.forIn_nil]
  refine wpAny_bind (wpAny_bind (wpAny_onRaise ?_))
  show wpAny _ _ (Builtin.SmallTypes.nextOf (.ref i1) >>= _) _ _ _
  have I1 : SIt g0 k1 i1 l1 p := h1.at fun o e => K0 _ o (D.i1z) e
  have L1 : SSrc g0 k1 l1 xs1 := hl1.at fun o e => K0 _ o (D.l1z) e
  cases hx1 : xs1[p]? with
  | none =>
    refine wpAny_bind (nextS_end hh I1 L1 hx1 fun ae e xe he => ?_)
    obtain ⟨oe, hoe, hce⟩ := he
    have ze : IsZip ae z TI TO .ellipsis := xe _ _ (D.i1z.symm) zz0
    have hez : e ≠ z := fun q => by subst q; rw [ze] at hoe; cases hoe; simp at hce
    refine wpAny_setField_rec ze (by simp) fun be _ sb => hE be e (fun c o c0 c1 c2 c3 c4 q => sb.extBut _ _ c0 (xe _ _ c2 (K0 c o c0 q))) ⟨oe, sb.extBut _ _ hez hoe, hce⟩
  | some x1 =>
    refine wpAny_bind (nextS_item I1 L1 hx1 fun a1 n1 sa1 => wpAny_pure ?_)
    have Ta1 : IsT a1 TO #[o1, o2, o3] := sa1.extBut _ _ (D.TOi1) T0
    refine wpAny_bind (wpAny_seqItems Ta1 rfl ?_)
    refine wpAny_bind (updT Ta1 (by simp) fun g1 T1 st1 => ?_)
    replace T1 : IsT g1 TO #[x1, o2, o3] := T1
    have K1 : ∀ c o, c ≠ z → c ≠ TO → c ≠ i1 → s.heap.get? c = some o → g1.get? c = some o := fun c o c0 c1 c2 e => st1.extBut _ _ c1 (sa1.extBut _ _ c2 (K0 c o c0 e))
    have zz1 : IsZip g1 z TI TO .ellipsis := st1.extBut _ _ (D.TOz.symm) (sa1.extBut _ _ (D.i1z.symm) zz0)
    have Z1 : g1.objs.size = s.heap.objs.size := by rw [st1.1, sa1.1, Z0]
    have N1_1 : SIt g1 k1 i1 l1 (p + 1) := n1.at fun o e => st1.extBut _ _ (D.TOi1.symm) e
    refine wpAny_bind (wpAny_letGo (wpAny_pure ?_))
    refine wpAny_bind (wpAny_bind (wpAny_onRaise ?_))
    show wpAny _ _ (Builtin.SmallTypes.nextOf (.ref i2) >>= _) _ _ _
    have I2 : SIt g1 k2 i2 l2 p := h2.at fun o e => K1 _ o (D.i2z) (D.TOi2.symm) (D.i1i2.symm) e
    have L2 : SSrc g1 k2 l2 xs2 := hl2.at fun o e => K1 _ o (D.l2z) (D.l2TO) (D.l2i1) e
    cases hx2 : xs2[p]? with
    | none =>
      refine wpAny_bind (nextS_end hh I2 L2 hx2 fun ae e xe he => ?_)
      obtain ⟨oe, hoe, hce⟩ := he
      have ze : IsZip ae z TI TO .ellipsis := xe _ _ (D.i2z.symm) zz1
      have hez : e ≠ z := fun q => by subst q; rw [ze] at hoe; cases hoe; simp at hce
      refine wpAny_setField_rec ze (by simp) fun be _ sb => hE be e (fun c o c0 c1 c2 c3 c4 q => sb.extBut _ _ c0 (xe _ _ c3 (K1 c o c0 c1 c2 q))) ⟨oe, sb.extBut _ _ hez hoe, hce⟩
    | some x2 =>
      refine wpAny_bind (nextS_item I2 L2 hx2 fun a2 n2 sa2 => wpAny_pure ?_)
      have Ta2 : IsT a2 TO #[x1, o2, o3] := sa2.extBut _ _ (D.TOi2) T1
      refine wpAny_bind (wpAny_seqItems Ta2 rfl ?_)
      refine wpAny_bind (updT Ta2 (by simp) fun g2 T2 st2 => ?_)
      replace T2 : IsT g2 TO #[x1, x2, o3] := T2
      have K2 : ∀ c o, c ≠ z → c ≠ TO → c ≠ i1 → c ≠ i2 → s.heap.get? c = some o → g2.get? c = some o := fun c o c0 c1 c2 c3 e => st2.extBut _ _ c1 (sa2.extBut _ _ c3 (K1 c o c0 c1 c2 e))
      have zz2 : IsZip g2 z TI TO .ellipsis := st2.extBut _ _ (D.TOz.symm) (sa2.extBut _ _ (D.i2z.symm) zz1)
      have Z2 : g2.objs.size = s.heap.objs.size := by rw [st2.1, sa2.1, Z1]
      have N2_2 : SIt g2 k2 i2 l2 (p + 1) := n2.at fun o e => st2.extBut _ _ (D.TOi2.symm) e
      have N1_2 : SIt g2 k1 i1 l1 (p + 1) := N1_1.at fun o e => st2.extBut _ _ (D.TOi1.symm) (sa2.extBut _ _ (D.i1i2) e)
      refine wpAny_bind (wpAny_letGo (wpAny_pure ?_))
      refine wpAny_bind (wpAny_bind (wpAny_onRaise ?_))
      show wpAny _ _ (Builtin.SmallTypes.nextOf (.ref i3) >>= _) _ _ _
      have I3 : SIt g2 k3 i3 l3 p := h3.at fun o e => K2 _ o (D.i3z) (D.TOi3.symm) (D.i1i3.symm) (D.i2i3.symm) e
      have L3 : SSrc g2 k3 l3 xs3 := hl3.at fun o e => K2 _ o (D.l3z) (D.l3TO) (D.l3i1) (D.l3i2) e
      cases hx3 : xs3[p]? with
      | none =>
        refine wpAny_bind (nextS_end hh I3 L3 hx3 fun ae e xe he => ?_)
        obtain ⟨oe, hoe, hce⟩ := he
        have ze : IsZip ae z TI TO .ellipsis := xe _ _ (D.i3z.symm) zz2
        have hez : e ≠ z := fun q => by subst q; rw [ze] at hoe; cases hoe; simp at hce
        refine wpAny_setField_rec ze (by simp) fun be _ sb => hE be e (fun c o c0 c1 c2 c3 c4 q => sb.extBut _ _ c0 (xe _ _ c4 (K2 c o c0 c1 c2 c3 q))) ⟨oe, sb.extBut _ _ hez hoe, hce⟩
      | some x3 =>
        rcases hend with q | q | q
        · rw [hx1] at q; cases q
        · rw [hx2] at q; cases q
        · rw [hx3] at q; cases q
theorem pyNext_zip3 {z TI TO i1 i2 i3 l1 l2 l3 : Addr} {k1 k2 k3 : Bool} {p : Nat} {xs1 xs2 xs3 : Array Value} {x1 x2 x3 o1 o2 o3 : Value} {Q : Option Value → Shared → Prop} (D : ZA3 z TI TO i1 i2 i3 l1 l2 l3) (hz : IsZip s.heap z TI TO .none) (hTI : IsT s.heap TI #[.ref i1, .ref i2, .ref i3]) (hTO : IsT s.heap TO #[o1, o2, o3]) (h1 : SIt s.heap k1 i1 l1 p) (hl1 : SSrc s.heap k1 l1 xs1) (h2 : SIt s.heap k2 i2 l2 p) (hl2 : SSrc s.heap k2 l2 xs2) (h3 : SIt s.heap k3 i3 l3 p) (hl3 : SSrc s.heap k3 l3 xs3) (hx1 : xs1[p]? = some x1) (hx2 : xs2[p]? = some x2) (hx3 : xs3[p]? = some x3)
    (hQ : ∀ h', IsZip h' z TI TO (rawInt s.heap.objs.size) → IsT h' TO #[x1, x2, x3] → SIt h' k1 i1 l1 (p + 1) → SIt h' k2 i2 l2 (p + 1) → SIt h' k3 i3 l3 (p + 1) → IsT h' s.heap.objs.size #[x1, x2, x3] → h'.objs.size = s.heap.objs.size + 1 → (∀ c o, c ≠ z → c ≠ TO → c ≠ i1 → c ≠ i2 → c ≠ i3 → s.heap.get? c = some o → h'.get? c = some o) → Q (some (.ref s.heap.objs.size)) { s with heap := h' }) :
    wpAny (model prog w) A (pyNext (.ref z)) Q E s := by
  have hT : s.TypeIs (.ref z) "zip" := ⟨_, hz, rfl⟩
  unfold pyNext
  exact wpAny_bind (wpAny_attempt (wpAny_callSpecial?_slot (name := Str.ofString "__next__") hT F.slot_zip_next (wpAny_call_entry F.slot_zip_next hT F.entry_zip_next (zip3_item D hz hTI hTO h1 hl1 h2 hl2 h3 hl3 hx1 hx2 hx3 fun h' a0 a1 a2 a3 a4 a5 a6 a7 => wpAny_pure (hQ h' a0 a1 a2 a3 a4 a5 a6 a7)) (F.args_zip_next_1 _))))
theorem pyNext_zip3_end {z TI TO i1 i2 i3 l1 l2 l3 : Addr} {k1 k2 k3 : Bool} {p : Nat} {xs1 xs2 xs3 : Array Value} {o1 o2 o3 : Value} {Q : Option Value → Shared → Prop} (hh : A.handled = none) (D : ZA3 z TI TO i1 i2 i3 l1 l2 l3) (hz : IsZip s.heap z TI TO .none) (hTI : IsT s.heap TI #[.ref i1, .ref i2, .ref i3]) (hTO : IsT s.heap TO #[o1, o2, o3]) (h1 : SIt s.heap k1 i1 l1 p) (hl1 : SSrc s.heap k1 l1 xs1) (h2 : SIt s.heap k2 i2 l2 p) (hl2 : SSrc s.heap k2 l2 xs2) (h3 : SIt s.heap k3 i3 l3 p) (hl3 : SSrc s.heap k3 l3 xs3) (hend : xs1[p]? = none ∨ xs2[p]? = none ∨ xs3[p]? = none)
    (hQ : ∀ h', (∀ c o, c ≠ z → c ≠ TO → c ≠ i1 → c ≠ i2 → c ≠ i3 → s.heap.get? c = some o → h'.get? c = some o) → Q none { s with heap := h' }) : wpAny (model prog w) A (pyNext (.ref z)) Q E s := by
  have hT : s.TypeIs (.ref z) "zip" := ⟨_, hz, rfl⟩
  unfold pyNext
  refine wpAny_bind (wpAny_attempt (wpAny_callSpecial?_slot (name := Str.ofString "__next__") hT F.slot_zip_next (wpAny_call_entry F.slot_zip_next hT F.entry_zip_next (zip3_end hh D hz hTI hTO h1 hl1 h2 hl2 h3 hl3 hend fun h' e hk he => ?_) (F.args_zip_next_1 _))))
  obtain ⟨o, ho, hc⟩ := he
  refine wpAny_bind (wpAny_isInstance (T := "StopIteration") (b := true) ⟨o, ho, hc⟩ isSubtype_stop ?_)
  exact wpAny_pure (hQ _ hk)
end
abbrev zH3_1 (h : Heap) (k1 : Bool) (l1 : Addr) : Heap := h.push { cls := .type (clsI k1), data := .fields #[.ref l1, .int 0 0] }
abbrev zH3_2 (h : Heap) (k1 k2 : Bool) (l1 l2 : Addr) : Heap := (zH3_1 h k1 l1).push { cls := .type (clsI k2), data := .fields #[.ref l2, .int 0 0] }
abbrev zH3_3 (h : Heap) (k1 k2 k3 : Bool) (l1 l2 l3 : Addr) : Heap := (zH3_2 h k1 k2 l1 l2).push { cls := .type (clsI k3), data := .fields #[.ref l3, .int 0 0] }
abbrev zH3_T (h : Heap) (k1 k2 k3 : Bool) (l1 l2 l3 : Addr) : Heap := (zH3_3 h k1 k2 k3 l1 l2 l3).push { cls := .type "tuple", data := .seq #[.ref h.objs.size, .ref (zH3_1 h k1 l1).objs.size, .ref (zH3_2 h k1 k2 l1 l2).objs.size] }
abbrev zH3_O (h : Heap) (k1 k2 k3 : Bool) (l1 l2 l3 : Addr) : Heap := (zH3_T h k1 k2 k3 l1 l2 l3).push { cls := .type "tuple", data := .seq #[.none, .none, .none] }
abbrev zH3_Z (h : Heap) (k1 k2 k3 : Bool) (l1 l2 l3 : Addr) : Heap := (zH3_O h k1 k2 k3 l1 l2 l3).push { cls := .type "zip", data := .fields #[.none, .bool false, .bool false, .ref (zH3_3 h k1 k2 k3 l1 l2 l3).objs.size, .ref (zH3_T h k1 k2 k3 l1 l2 l3).objs.size] }
theorem meets_zip3 (k1 k2 k3 : Bool) (l1 l2 l3 : Addr) (xs1 xs2 xs3 : Array Value) :
    Meets (Builtin.«zip.__new__» ⟨[.type "zip", .ref l1, .ref l2, .ref l3], []⟩) (fun _ R s => (SSrc s.heap k1 l1 xs1 ∧ SSrc s.heap k2 l2 xs2 ∧ SSrc s.heap k3 l3 xs3) ∧ R (.ok (.ret (.ref (zH3_O s.heap k1 k2 k3 l1 l2 l3).objs.size))) { s with heap := zH3_Z s.heap k1 k2 k3 l1 l2 l3 }) :=
  .of_wp fun prog w A R s h => by
    obtain ⟨hp, g, d, tk, os⟩ := s; obtain ⟨⟨hl1, hl2, hl3⟩, h⟩ := h
    have hsub := sub_zip
    have M1 : SSrc (Shared.heap ⟨hp, g, d, tk, os⟩) k1 l1 xs1 := hl1
    have M2 : SSrc (Shared.heap ⟨(hp.push { cls := .type (clsI k1), data := .fields #[.ref l1, .int 0 0] }), g, d, tk, os⟩) k2 l2 xs2 := hl2.at fun o e => Heap.get?_push_of_some _ (e)
    have M3 : SSrc (Shared.heap ⟨((hp.push { cls := .type (clsI k1), data := .fields #[.ref l1, .int 0 0] }).push { cls := .type (clsI k2), data := .fields #[.ref l2, .int 0 0] }), g, d, tk, os⟩) k3 l3 xs3 := hl3.at fun o e => Heap.get?_push_of_some _ (Heap.get?_push_of_some _ (e))
    wp_walk using iterS M1, iterS M2, iterS M3
    exact ⟨_, rfl, h⟩
theorem tc_zip3 (a1 a2 a3 : Value) : checkTypeCall "zip" ⟨[a1, a2, a3], []⟩ = pure () := by kernel_rfl
theorem nc_zip3 (a1 a2 a3 : Value) : checkBuiltinCall "zip.__new__" ⟨[.type "zip", a1, a2, a3], []⟩ = pure () := by kernel_rfl
theorem ai_zip3 (b a1 a2 a3 : Value) : argsOk "object.__init__" ⟨[b, a1, a2, a3], []⟩ := by
  unfold argsOk; rw [signature?_of (id := "object.__init__") (n := ['_', '_', 't', 'i', 'n', 'i', '_', '_']) (o := ['t', 'c', 'e', 'j', 'b', 'o']) (by kernel_rfl) F.owner_object]; kernel_rfl
section
variable {prog : Program} {w : World} {A : Around} {E : Value → Shared → Prop} {s : Shared}
theorem call_zip3 {k1 k2 k3 : Bool} {l1 l2 l3 : Addr} {xs1 xs2 xs3 : Array Value} {Q : Value → Shared → Prop} (hl1 : SSrc s.heap k1 l1 xs1) (hl2 : SSrc s.heap k2 l2 xs2) (hl3 : SSrc s.heap k3 l3 xs3)
    (h : ∀ h', IsZip h' (s.heap.objs.size + 5) (s.heap.objs.size + 3) (s.heap.objs.size + 4) .none → IsT h' (s.heap.objs.size + 3) #[.ref s.heap.objs.size, .ref (s.heap.objs.size + 1), .ref (s.heap.objs.size + 2)] → IsT h' (s.heap.objs.size + 4) #[.none, .none, .none] → SIt h' k1 s.heap.objs.size l1 0 → SIt h' k2 (s.heap.objs.size + 1) l2 0 → SIt h' k3 (s.heap.objs.size + 2) l3 0 → (∀ c o, s.heap.get? c = some o → h'.get? c = some o) → Q (.ref (s.heap.objs.size + 5)) { s with heap := h' }) :
    wpAny (model prog w) A (call (.type "zip") [.ref l1, .ref l2, .ref l3]) Q E s := by
  refine callType_new F.called_zip (by decide) (tc_zip3 _ _ _ ) (nc_zip3 _ _ _ ) (fun obj => ai_zip3 obj _ _ _ ) F.entry_zip_new (meets_zip3 k1 k2 k3 l1 l2 l3 xs1 xs2 xs3) ⟨⟨hl1, hl2, hl3⟩, ?_⟩
  have y1 : (zH3_1 s.heap k1 l1).objs.size = s.heap.objs.size + 1 := Heap.size_push ..
  have y2 : (zH3_2 s.heap k1 k2 l1 l2).objs.size = s.heap.objs.size + 2 := by rw [Heap.size_push, y1]
  have y3 : (zH3_3 s.heap k1 k2 k3 l1 l2 l3).objs.size = s.heap.objs.size + 3 := by rw [Heap.size_push, y2]
  have y4 : (zH3_T s.heap k1 k2 k3 l1 l2 l3).objs.size = s.heap.objs.size + 4 := by rw [Heap.size_push, y3]
  have y5 : (zH3_O s.heap k1 k2 k3 l1 l2 l3).objs.size = s.heap.objs.size + 5 := by rw [Heap.size_push, y4]
  have q0 : (zH3_Z s.heap k1 k2 k3 l1 l2 l3).get? s.heap.objs.size = some _ := Heap.get?_push_of_some _ (Heap.get?_push_of_some _ (Heap.get?_push_of_some _ (Heap.get?_push_of_some _ (Heap.get?_push_of_some _ (Heap.get?_push_size _ rfl)))))
  have q1 : (zH3_Z s.heap k1 k2 k3 l1 l2 l3).get? (zH3_1 s.heap k1 l1).objs.size = some _ := Heap.get?_push_of_some _ (Heap.get?_push_of_some _ (Heap.get?_push_of_some _ (Heap.get?_push_of_some _ (Heap.get?_push_size _ rfl))))
  have q2 : (zH3_Z s.heap k1 k2 k3 l1 l2 l3).get? (zH3_2 s.heap k1 k2 l1 l2).objs.size = some _ := Heap.get?_push_of_some _ (Heap.get?_push_of_some _ (Heap.get?_push_of_some _ (Heap.get?_push_size _ rfl)))
  have q3 : (zH3_Z s.heap k1 k2 k3 l1 l2 l3).get? (zH3_3 s.heap k1 k2 k3 l1 l2 l3).objs.size = some _ := Heap.get?_push_of_some _ (Heap.get?_push_of_some _ (Heap.get?_push_size _ rfl))
  have q4 : (zH3_Z s.heap k1 k2 k3 l1 l2 l3).get? (zH3_T s.heap k1 k2 k3 l1 l2 l3).objs.size = some _ := Heap.get?_push_of_some _ (Heap.get?_push_size _ rfl)
  have q5 : (zH3_Z s.heap k1 k2 k3 l1 l2 l3).get? (zH3_O s.heap k1 k2 k3 l1 l2 l3).objs.size = some _ := Heap.get?_push_size _ rfl
  show _ ∧ _
  rw [y1] at q1
  rw [y2] at q2
  rw [y1, y2, y3] at q3
  rw [y4] at q4
  rw [y3, y4, y5] at q5
  rw [y5]
  exact ⟨⟨_, q5, rfl⟩, h _ q5 q3 q4 (show SIt _ k1 _ l1 0 by cases k1 <;> exact ⟨_, q0, rfl, rfl⟩) (show SIt _ k2 _ l2 0 by cases k2 <;> exact ⟨_, q1, rfl, rfl⟩) (show SIt _ k3 _ l3 0 by cases k3 <;> exact ⟨_, q2, rfl, rfl⟩) fun c o x => Heap.get?_push_of_some _ (Heap.get?_push_of_some _ (Heap.get?_push_of_some _ (Heap.get?_push_of_some _ (Heap.get?_push_of_some _ (Heap.get?_push_of_some _ (x))))))⟩
theorem za3 {I l1 l2 l3 : Nat} (e1 : l1 < I) (e2 : l2 < I) (e3 : l3 < I) : ZA3 (I + 5) (I + 3) (I + 4) I (I + 1) (I + 2) l1 l2 l3 := by
  constructor <;> (refine Nat.ne_iff_lt_or_gt.mpr ?_; omega)
end
/-- the items of things that stand, turn by turn, in new tuples -/
def ItZ3 (K : PySem.W.Frag) (k1 k2 k3 : Bool) (l1 l2 l3 : Addr) (ys1 ys2 ys3 : List V) : It :=
  ⟨fun i H => (SqS K H k1 l1 ys1 ∧ SqS K H k2 l2 ys2 ∧ SqS K H k3 l3 ys3) ∧ i < ys1.length ∧ i < ys2.length ∧ i < ys3.length, fun i H v H' => ∃ (T : Addr) (x1 x2 x3 : V), v = .ref T ∧ H T = none ∧ H' = upd H T (.tup [x1, x2, x3]) ∧ ys1[i]? = some x1 ∧ ys2[i]? = some x2 ∧ ys3[i]? = some x3, fun i H => (SqS K H k1 l1 ys1 ∧ SqS K H k2 l2 ys2 ∧ SqS K H k3 l3 ys3) ∧ (ys1.length ≤ i ∨ ys2.length ≤ i ∨ ys3.length ≤ i)⟩
theorem turn_z3 {P : Program} {w : World} {K : PySem.W.Frag} {elts : List Expr} {kk : Nat} {tpos : Pos} {z TI TO i1 i2 i3 l1 l2 l3 : Addr} {k1 k2 k3 : Bool} {ys1 ys2 ys3 : List V} (D : ZA3 z TI TO i1 i2 i3 l1 l2 l3) :
    Turn P w K (.Tuple elts kk tpos) (ItZ3 K k1 k2 k3 l1 l2 l3 ys1 ys2 ys3) [z, TI, TO, i1, i2, i3] z (fun i h => IsZip h z TI TO .none ∧ IsT h TI #[.ref i1, .ref i2, .ref i3] ∧ (∃ o1 o2 o3 : Value, IsT h TO #[o1, o2, o3]) ∧ SIt h k1 i1 l1 i ∧ SIt h k2 i2 l2 i ∧ SIt h k3 i3 l3 i) where
  mem := by simp
  obj := fun i h ⟨hz, hTI, ⟨o1, o2, o3, hTO⟩, h1, h2, h3⟩ c hc => by
    have e' : c = z ∨ c = TI ∨ c = TO ∨ c = i1 ∨ c = i2 ∨ c = i3 := by simpa using hc
    rcases e' with q | q | q | q | q | q
    · rw [q]; exact ⟨_, hz, fun v q => nomatch q⟩
    · rw [q]; exact ⟨_, hTI, fun v q => nomatch q⟩
    · rw [q]; exact ⟨_, hTO, fun v q => nomatch q⟩
    · rw [q]; exact h1.ob
    · rw [q]; exact h2.ob
    · rw [q]; exact h3.ob
  keep := fun i h h' ⟨hz, hTI, ⟨o1, o2, o3, hTO⟩, h1, h2, h3⟩ k => ⟨k z (by simp) _ hz, k TI (by simp) _ hTI, ⟨o1, o2, o3, k TO (by simp) _ hTO⟩, h1.at fun o q => k i1 (by simp) o q, h2.at fun o q => k i2 (by simp) o q, h3.at fun o q => k i3 (by simp) o q⟩
  item := by
    intro X hP hw hK hc i pins s σ H E I hf st hg
    subst hP hw hK
    obtain ⟨hz, hTI, ⟨o1, o2, o3, hTO⟩, h1, h2, h3⟩ := st
    obtain ⟨⟨q1, q2, q3⟩, b1, b2, b3⟩ := hg
    obtain ⟨its1, rv1, p1⟩ := Inv.srcS I q1
    have hx1 : ys1[i]? = some (ys1[i]'b1) := List.getElem?_eq_getElem b1
    generalize ys1[i]'b1 = x1 at hx1
    obtain ⟨u1, hu1, ru1⟩ := rv1.get hx1
    obtain ⟨its2, rv2, p2⟩ := Inv.srcS I q2
    have hx2 : ys2[i]? = some (ys2[i]'b2) := List.getElem?_eq_getElem b2
    generalize ys2[i]'b2 = x2 at hx2
    obtain ⟨u2, hu2, ru2⟩ := rv2.get hx2
    obtain ⟨its3, rv3, p3⟩ := Inv.srcS I q3
    have hx3 : ys3[i]? = some (ys3[i]'b3) := List.getElem?_eq_getElem b3
    generalize ys3[i]'b3 = x3 at hx3
    obtain ⟨u3, hu3, ru3⟩ := rv3.get hx3
    have hzl : z < s.heap.objs.size := Heap.lt_size hz
    refine pyNext_zip3 D hz hTI hTO h1 p1 h2 p2 h3 p3 (by simpa using hu1) (by simpa using hu2) (by simpa using hu3) fun h' z' TO' n1 n2 n3 hT hsz hk => ?_
    refine ⟨_, rfl, wpAny_letOwnedTupleGo_zip (s := { s with heap := h' }) z' fun hq z2 sb => ?_⟩
    have hT2 : IsT hq s.heap.objs.size #[u1, u2, u3] := (sb.2 _ (Nat.ne_of_gt hzl)).trans hT
    have new : ObjOk X.prog X.w (upd H s.heap.objs.size (.tup [x1, x2, x3])) hq s.heap.objs.size (.tup [x1, x2, x3]) :=
      ⟨by show 3 ≤ sizeLine; decide, [u1, u2, u3], .cons ru1 (.cons ru2 (.cons ru3 (.nil))), ⟨_, hT2, rfl, _, rfl⟩⟩
    have I1 : L2.Inv X pins σ (upd H s.heap.objs.size (.tup [x1, x2, x3])) { s with heap := hq } :=
      I.turnedNew (t' := s.toks) (ch := [z, TI, TO, i1, i2, i3]) (fun c o hb q => (sb.2 c (fun q' => hb (by simp [q']))).trans (hk c o (fun q' => hb (by simp [q'])) (fun q' => hb (by simp [q'])) (fun q' => hb (by simp [q'])) (fun q' => hb (by simp [q'])) (fun q' => hb (by simp [q'])) q)) hf (Nat.le_refl _) new
    refine ⟨.ref s.heap.objs.size, _, I1, rfl, ⟨_, x1, x2, x3, rfl, I.hok.fresh (Nat.le_refl _), rfl, hx1, hx2, hx3⟩, ⟨z2, ?_, ⟨u1, u2, u3, ?_⟩, ?_, ?_, ?_⟩, fun c hcm => ?_⟩
    · exact (sb.2 _ D.TIz).trans (hk _ _ D.TIz D.TITO D.TIi1 D.TIi2 D.TIi3 hTI)
    · exact (sb.2 _ D.TOz).trans TO'
    · exact n1.at fun o q => (sb.2 _ D.i1z).trans q
    · exact n2.at fun o q => (sb.2 _ D.i2z).trans q
    · exact n3.at fun o q => (sb.2 _ D.i3z).trans q
    · have hlt : c < s.heap.objs.size := by
        have e' : c = z ∨ c = TI ∨ c = TO ∨ c = i1 ∨ c = i2 ∨ c = i3 := by simpa using hcm
        rcases e' with q | q | q | q | q | q
        · rw [q]; exact hzl
        · rw [q]; exact Heap.lt_size hTI
        · rw [q]; exact Heap.lt_size hTO
        · rw [q]; exact h1.lt
        · rw [q]; exact h2.lt
        · rw [q]; exact h3.lt
      rw [upd_ne (Nat.ne_of_lt hlt)]
      exact (hf c hcm).1
  done := by
    intro X hP hw hK hc i pins s σ H E I hf st hg
    subst hP hw hK
    obtain ⟨hz, hTI, ⟨o1, o2, o3, hTO⟩, h1, h2, h3⟩ := st
    obtain ⟨⟨q1, q2, q3⟩, hend⟩ := hg
    obtain ⟨its1, rv1, p1⟩ := Inv.srcS I q1
    have e1 := rv1.length
    obtain ⟨its2, rv2, p2⟩ := Inv.srcS I q2
    have e2 := rv2.length
    obtain ⟨its3, rv3, p3⟩ := Inv.srcS I q3
    have e3 := rv3.length
    have he : its1.toArray[i]? = none ∨ its2.toArray[i]? = none ∨ its3.toArray[i]? = none := by
      rcases hend with q | q | q
      · exact .inl (by simp; omega)
      · exact .inr (.inl (by simp; omega))
      · exact .inr (.inr (by simp; omega))
    exact pyNext_zip3_end (I.ok.hd hc) D hz hTI hTO h1 p1 h2 p2 h3 p3 he fun h' hk => ⟨rfl, I.turnedL (t' := s.toks) (ch := [z, TI, TO, i1, i2, i3]) (fun c o hb q => hk c o (fun q' => hb (by simp [q'])) (fun q' => hb (by simp [q'])) (fun q' => hb (by simp [q'])) (fun q' => hb (by simp [q'])) (fun q' => hb (by simp [q'])) q) hf⟩
  self := fun A i s Q E st h => wpAny_pyIter_zip st.1 h
def iZ3 (K : PySem.W.Frag) (ta : TA) : TI := fun σ H R => ta σ H fun vs H1 => ∃ (k1 k2 k3 : Bool) (l1 l2 l3 : Addr) (ys1 ys2 ys3 : List V), vs = [.ref l1, .ref l2, .ref l3] ∧ (SqS K H1 k1 l1 ys1 ∧ SqS K H1 k2 l2 ys2 ∧ SqS K H1 k3 l3 ys3) ∧ R (ItZ3 K k1 k2 k3 l1 l2 l3 ys1 ys2 ys3) H1
theorem pi_z3 {X : Cx} {e1 e2 e3 : Expr} {ta : TA} {p pos tpos : Pos} {elts : List Expr} {kk : Nat} (hg : Gl X "zip") (hm : X.mg "zip" = none) (ha : PA X [e1, e2, e3] ta)
    (hs : starEach [e1, e2, e3] X.env = (false, eval e1 X.env) :: starEach [e2, e3] X.env := by rfl) (hpl : (backTo pos (starEach [e2, e3] X.env)).any (·.1) = false := by rfl) :
    PI X (.Tuple elts kk tpos) (.Call (.Name "zip" p) [e1, e2, e3] [] pos) (iZ3 X.K ta) := by
  refine ⟨fun pins s σ H R I h => ?_⟩
  refine Call_ (ld_blt I hg hm PyProof.Rows.boot_zip (PyProof.Rows.callWith_type1 (thn (ha.run pos pins s σ H _ I h) fun us s1 ⟨vs, H1, I1, r1, q1⟩ => ?_) hs hpl))
  obtain ⟨k1, k2, k3, l1, l2, l3, ys1, ys2, ys3, ex, ⟨q1, q2, q3⟩, q⟩ := q1
  subst ex
  cases r1 with
  | cons r1v rr =>
    cases rr with
    | cons r2v rr =>
      cases rr with
      | cons r3v rr =>
        cases rr
        cases r1v
        cases r2v
        cases r3v
        obtain ⟨its1, rv1, p1⟩ := Inv.srcS I1 q1
        obtain ⟨its2, rv2, p2⟩ := Inv.srcS I1 q2
        obtain ⟨its3, rv3, p3⟩ := Inv.srcS I1 q3
        have fresh : ∀ c, c ∈ ([s1.heap.objs.size + 5, s1.heap.objs.size + 3, s1.heap.objs.size + 4, s1.heap.objs.size, s1.heap.objs.size + 1, s1.heap.objs.size + 2] : List Addr) → FpOk X pins H1 c := fun c hcm => by
          have e' : c = s1.heap.objs.size + 5 ∨ c = s1.heap.objs.size + 3 ∨ c = s1.heap.objs.size + 4 ∨ c = s1.heap.objs.size ∨ c = s1.heap.objs.size + 1 ∨ c = s1.heap.objs.size + 2 := by simpa using hcm
          have hle : s1.heap.objs.size ≤ c := by rcases e' with z | z | z | z | z | z <;> (rw [z]; first | exact Nat.le_refl _ | exact Nat.le_add_right _ _)
          exact I1.fpOk hle (I1.hok.fresh hle)
        refine call_zip3 p1 p2 p3 fun h' hz hTI hTO n1 n2 n3 hk => wpAny_pyIter_zip hz ?_
        have I2 : L2.Inv X pins σ H1 { s1 with heap := h' } := I1.kept (t' := s1.toks) hk
        exact ⟨s1.heap.objs.size + 5, [s1.heap.objs.size + 5, s1.heap.objs.size + 3, s1.heap.objs.size + 4, s1.heap.objs.size, s1.heap.objs.size + 1, s1.heap.objs.size + 2], _, _, H1, rfl, I2, turn_z3 (za3 p1.lt p2.lt p3.lt), ⟨hz, hTI, ⟨_, _, _, hTO⟩, n1, n2, n3⟩, fresh, q⟩
theorem WalkD.zip3 {G : GC} {F : Hp} {k1 k2 k3 : Bool} {l1 l2 l3 : Addr} {ys1 ys2 ys3 : List V} {d1 d2 d3 : List D} (hs : SqS G.K F k1 l1 ys1 ∧ SqS G.K F k2 l2 ys2 ∧ SqS G.K F k3 l3 ys3) (r1 : RepAll G F ys1 d1) (r2 : RepAll G F ys2 d2) (r3 : RepAll G F ys3 d3) : WalkD G F F (ItZ3 G.K k1 k2 k3 l1 l2 l3 ys1 ys2 ys3) (zipL3 d1 d2 d3) where
  goes := fun i H hi s => by
    obtain ⟨q1, q2, q3⟩ := hs
    have w1 := r1.length
    have w2 := r2.length
    have w3 := r3.length
    simp only [zipL3, List.length_map, List.length_zip] at hi
    exact ⟨⟨q1.keep s, q2.keep s, q3.keep s⟩, by omega, by omega, by omega⟩
  stops := fun H s => by
    obtain ⟨q1, q2, q3⟩ := hs
    have w1 := r1.length
    have w2 := r2.length
    have w3 := r3.length
    refine ⟨⟨q1.keep s, q2.keep s, q3.keep s⟩, ?_⟩
    simp only [zipL3, List.length_map, List.length_zip]
    omega
  yields := fun i F2 H2 v H3 hi s1 s2 _ ⟨T, x1, x2, x3, e1, e2, e3, g1, g2, g3⟩ => by
    subst e1 e3
    obtain ⟨c1, t1, m1⟩ := r1.getV g1
    obtain ⟨c2, t2, m2⟩ := r2.getV g2
    obtain ⟨c3, t3, m3⟩ := r3.getV g3
    refine ⟨_, .tup [c1, c2, c3], Grow.mk1 s2 e2, ?_, Rep.tup (.of upd_same) (.cons ((m1.mono s1).mono (Grow.mk1 s2 e2).f) (.cons ((m2.mono s1).mono (Grow.mk1 s2 e2).f) (.cons ((m3.mono s1).mono (Grow.mk1 s2 e2).f) (.nil))))⟩
    unfold zipL3
    have hz : (d1.zip (d2.zip d3))[i]? = some (c1, c2, c3) := List.getElem?_zip_eq_some.mpr ⟨t1, List.getElem?_zip_eq_some.mpr ⟨t2, t3⟩⟩
    rw [List.getElem?_map, hz]
    rfl
theorem ri_zip3 {X : Cx} {W : Wi} {e1 e2 e3 : Expr} {p pos tpos : Pos} {elts : List Expr} {kk : Nat} {fa : Env → Res (List D)} (hm : X.mg "zip" = none) (ha : RA X W [e1, e2, e3] fa) (hg : Gl X "zip" := by rfl)
    (hs : starEach [e1, e2, e3] X.env = (false, eval e1 X.env) :: starEach [e2, e3] X.env := by rfl) (hpl : (backTo pos (starEach [e2, e3] X.env)).any (·.1) = false := by rfl) :
    RI X W true (.Tuple elts kk tpos) (.Call (.Name "zip" p) [e1, e2, e3] [] pos) (fun r => fa r >>= zip3D) := by
  refine ⟨fun pins s σ H R I ⟨H0, F0, fp, F, r, m, o⟩ => (pi_z3 hg hm ha hs hpl).run pins s σ H R I ⟨H0, F0, fp, F, r, m, o.bind fun F' H' ds gr o2 vs rv => ?_⟩⟩
  rcases zip3D_inv ds with ⟨a, b, c, xs, ys, zs, rfl, w1, w2, w3, e⟩ | e
  · rw [e] at o2
    cases rv with
    | cons v1 rr =>
      cases rr with
      | cons v2 rr =>
        cases rr with
        | cons v3 rr =>
          cases rr
          obtain ⟨k1, l1, ys1, rfl, q1, r1⟩ := seqQ_rep (Same.refl F') v1 w1
          obtain ⟨k2, l2, ys2, rfl, q2, r2⟩ := seqQ_rep (Same.refl F') v2 w2
          obtain ⟨k3, l3, ys3, rfl, q3, r3⟩ := seqQ_rep (Same.refl F') v3 w3
          refine ⟨k1, k2, k3, l1, l2, l3, ys1, ys2, ys3, rfl, ⟨q1.keep gr.sub, q2.keep gr.sub, q3.keep gr.sub⟩, o2 F' H' (Grow.refl gr.sub) _ (WalkD.zip3 ⟨q1, q2, q3⟩ r1 r2 r3)⟩
  · rw [e] at o2; exact o2.elim
end Mir
namespace Mir
open PySem PySem.Spec PyProof.Rows L2
variable [Tn]
def trD : D → Option Bool
  | .bl b => some b
  | .int i => some (i != 0)
  | _ => none
def trsD : List D → Option (List Bool)
  | [] => some []
  | d :: ds => match trD d, trsD ds with
    | some b, some bs => some (b :: bs)
    | _, _ => none
def trV : V → Bool → Prop := fun x b => x = .bl b ∨ ∃ i : Int, x = .int i ∧ b = (i != 0)
theorem trs_rep {G : GC} {F : Hp} : ∀ {vs : List V} {ds : List D} {bs : List Bool}, RepAll G F vs ds → trsD ds = some bs → Paired trV vs bs
  | _, _, _, .nil, e => by cases e; exact .nil
  | _, _, _, .cons (d := d) r t, e => by
    rw [trsD] at e
    split at e
    · rename_i b bs h1 h2
      cases e
      refine .cons ?_ (trs_rep t h2)
      cases d with
      | bl c => cases h1; cases r; exact .inl rfl
      | int i => cases h1; cases r; exact .inr ⟨i, rfl, rfl⟩
      | _ => cases h1
    · cases e
theorem paired_at {vs : List V} {bs : List Bool} {its : List Value} (p : Paired trV vs bs) (r : Vals vs its) : ∀ {i : Nat} {v : Value}, its[i]? = some v → ∃ x b, RelV x v ∧ trV x b ∧ bs[i]? = some b := by
  induction p generalizing its with
  | nil => cases r; intro i v h; simp at h
  | cons a l ih =>
    cases r with
    | cons q k =>
      intro i v h
      cases i with
      | zero =>
        simp at h
        subst h
        exact ⟨_, _, q, a, rfl⟩
      | succ i =>
        obtain ⟨x, b, h1, h2, h3⟩ := ih k (by simpa using h)
        exact ⟨x, b, h1, h2, by simpa using h3⟩
theorem truth_trs {prog : Program} {w : World} {A : Around} {vs : List V} {bs : List Bool} {its : List Value} (p : Paired trV vs bs) (r : Vals vs its) : TruthOf prog w A (fun i v => its.toArray[i]? = some v) (fun i => bs.getD i false) := fun i v s Q E hv hq => by
  obtain ⟨x, b, h1, h2, h3⟩ := paired_at p r (show its[i]? = some v by simpa using hv)
  have hg : bs.getD i false = b := by rw [List.getD_eq_getElem?_getD, h3] <;> rfl
  have hq' : Q (bs.getD i false) s := hq
  rw [hg] at hq'
  rcases h2 with rfl | ⟨j, rfl, rfl⟩
  · cases (show v = Value.bool b from h1)
    exact wpAny_truthy_bool hq'
  · obtain ⟨t, e⟩ := (show ∃ t, v = Value.int j t from h1)
    subst e
    exact PySem.P.truthy_int hq'
def rAllT (K : PySem.W.Frag) : List V → Hp → VK → Prop := fun vs H Q => ∃ (k : Bool) (a : Addr) (xs : List V) (bs : List Bool), vs = [V.ref a] ∧ SqS K H k a xs ∧ Paired trV xs bs ∧ Q (.bl (bs.all id)) H
theorem all_range' : ∀ bs : List Bool, (List.range bs.length).all (fun i => bs.getD i false) = bs.all id
  | [] => rfl
  | b :: bs => by
    rw [List.length_cons, List.range_succ_eq_map, List.all_cons, List.all_map, List.all_cons]
    have z := all_range' bs
    rw [← z]
    rfl
section
variable {X : Cx}
theorem walks_S {P : Program} {w : World} {A : Around} (hh : A.handled = none) (I ax : Addr) (hne : ax ≠ I) (k : Bool) (items : Array Value) : Walks P w A I [I, ax] [I] items.size (fun i v => items[i]? = some v) (fun i h => SIt h k I ax i ∧ SSrc h k ax items) := by
  cases k with
  | true => exact Walks.list hh I ax hne items
  | false => exact Walks.tuple hh I ax hne items
theorem cr_allT (hc : X.calm = true) : CallR X (.builtin "all") (rAllT X.K) := by
  intro pins s σ H vs us Q I r h
  obtain ⟨k, a, xs, bs, rfl, hs, pr, q⟩ := h
  obtain ⟨its, rv, hl⟩ := Inv.srcS I hs
  rw [Vals.ref1 r]
  have hlt := hl.lt
  have hlen : its.length = bs.length := by have h1 := rv.length; have h2 := Paired.length pr; omega
  refine call_all_walk (iterS hl ⟨_, _, _, _, _, _, _, rfl, walks_S (A := X.A.in1) (I.ok.hd hc) _ a (Nat.ne_of_lt hlt) k its.toArray, ⟨?_, hl.at fun o e => Heap.get?_push_of_some _ e⟩, truth_trs pr rv, fun h' tk hk => ?_⟩)
  · cases k <;> exact ⟨_, Heap.get?_push_size _ rfl, rfl, rfl⟩
  · refine ⟨.bl _, H, I.kept fun b o eo => hk b o (fun hmem => ?_) (Heap.get?_push_of_some _ eo), ?_, q⟩
    · rcases List.mem_cons.mp hmem with e1 | hmem
      · exact absurd (e1 ▸ Heap.lt_size eo) (Nat.lt_irrefl _)
      · cases hmem
    · show Value.bool _ = Value.bool _
      rw [← all_range', List.size_toArray, hlen]
def allT : D → Res D
  | .lst ds => match trsD ds with
    | some bs => .ok (.bl (bs.all id))
    | none => .bad
  | .tup ds => match trsD ds with
    | some bs => .ok (.bl (bs.all id))
    | none => .bad
  | _ => .bad
theorem b_allT (hc : X.calm = true) (hm : X.mg "all" = none) : BlM X "all" .S (one allT) := BlM.b hm boot_all' (cr_allT hc) (ne_one (fun d e z => by unfold allT at z; split at z <;> (try split at z) <;> cases z)) (cal_one fun F H x a d Q s ra e q => by
  unfold allT at e
  split at e
  · split at e <;> cases e
    rename_i bs h
    obtain ⟨p, vs, rfl, h1, r1⟩ := ra.lst s
    exact ⟨true, p, vs, bs, rfl, .of h1, trs_rep r1 h, q _ F H (Grow.refl s) (Rep.bl _)⟩
  · split at e <;> cases e
    rename_i bs h
    obtain ⟨p, vs, rfl, h1, r1⟩ := ra.tup s
    exact ⟨false, p, vs, bs, rfl, h1, trs_rep r1 h, q _ F H (Grow.refl s) (Rep.bl _)⟩
  · cases e)
end
end Mir
namespace Mir
open PySem PySem.Spec PyProof.Rows L2
variable [Tn]
/-- the list that the i-th name owns, given away -/
def giveG (i : Nat) (r : Env) : Oc := match r[i]? with
  | some (.ow .flat d) => .rt d
  | _ => .bad
end Mir
namespace Mir
open PySem PySem.Spec PyProof.Rows L2
variable [Tn]
def getK : List D → List D → NestedKey → Option D
  | k :: ks, v :: vs, q => if keyOf k = some q then some v else getK ks vs q
  | _, _, _ => none
def hasK (ks : List D) (q : NestedKey) : Bool := ks.any fun k => decide (keyOf k = some q)
def repK : List D → List D → NestedKey → D → List D
  | k :: ks, v :: vs, q, x => (if keyOf k = some q then x else v) :: repK ks vs q x
  | _, _, _, _ => []
/-- in its place, or at the end -/
def setK (ks vs : List D) (kd : D) (q : NestedKey) (x : D) : List D × List D := if hasK ks q = true then (ks, repK ks vs q x) else (ks ++ [kd], vs ++ [x])
/-- a tuple as a key -/
def keyT (d : D) : Option NestedKey := match d with
  | .tup xs => match keyOf (.tup xs) with
    | some q => if q.depth ≤ 8 then some q else none
    | none => none
  | _ => none
theorem keyT_some {d : D} {q : NestedKey} (h : keyT d = some q) : (∃ xs, d = .tup xs) ∧ keyOf d = some q ∧ q.depth ≤ 8 := by
  unfold keyT at h
  split at h
  · split at h
    · rename_i e
      split at h
      · rename_i hd
        cases h
        exact ⟨⟨_, rfl⟩, e, hd⟩
      · cases h
    · cases h
  · cases h
section
variable {G : GC} {F H : Hp}
abbrev EN := NestedKey × Addr × Value
theorem getK_at {q : NestedKey} : ∀ {xs : List EN} {ws : List V} {ks vs : List D}, Vals ws (xs.map (·.2.2)) → ks.map keyOf = xs.map (fun x => some x.1) → RepAll G F ws vs →
    (getK ks vs q = none ∧ atKey xs q = none) ∨ ∃ d e v, getK ks vs q = some d ∧ atKey xs q = some e ∧ RelV v e.2 ∧ Rep G F v d
  | [], _, ks, _, wv, ke, vr => by
    cases ks with
    | nil => exact .inl ⟨by unfold getK; rfl, rfl⟩
    | cons k ks => cases ke
  | x :: xs, _, ks, _, wv, ke, vr => by
    cases ks with
    | nil => cases ke
    | cons k ks =>
      rw [List.map_cons, List.map_cons, List.cons.injEq] at ke
      cases wv with
      | cons r1 rt =>
        cases vr with
        | cons p1 pt =>
          by_cases h : x.1 = q
          · refine .inr ⟨_, x.2, _, ?_, ?_, r1, p1⟩
            · rw [getK, if_pos (by rw [ke.1, h])]
            · simp [atKey, List.find?_cons, h]
          · have e1 : ∀ v vs', getK (k :: ks) (v :: vs') q = getK ks vs' q := fun v vs' => by rw [getK, if_neg (by rw [ke.1]; intro z; exact h (Option.some.inj z))]
            have e2 : atKey (x :: xs) q = atKey xs q := by simp [atKey, List.find?_cons, h]
            rw [e1, e2]
            exact getK_at rt ke.2 pt
theorem hasK_at {q : NestedKey} : ∀ {xs : List EN} {ks : List D}, ks.map keyOf = xs.map (fun x => some x.1) → hasK ks q = (atKey xs q).isSome
  | [], ks, ke => by
    cases ks with
    | nil => rfl
    | cons k ks => cases ke
  | x :: xs, ks, ke => by
    cases ks with
    | nil => cases ke
    | cons k ks =>
      rw [List.map_cons, List.map_cons, List.cons.injEq] at ke
      have ih := hasK_at (q := q) ke.2
      unfold hasK at ih ⊢
      rw [List.any_cons, ih, ke.1]
      by_cases h : x.1 = q
      · simp [atKey, List.find?_cons, h]
      · have z : ¬ (some x.1 = some q) := fun z => h (Option.some.inj z)
        simp [atKey, List.find?_cons, h, z]
/-- a table in the heap -/
structure DR (G : GC) (F : Hp) (xs : List EN) (ws : List V) (ks vs : List D) : Prop where
  wv : Vals ws (xs.map (·.2.2))
  kr : RepAll G F (xs.map fun x => V.ref x.2.1) ks
  ke : ks.map keyOf = xs.map (fun x => some x.1)
  vr : RepAll G F ws vs
theorem DR.mono {F' : Hp} {xs : List EN} {ws : List V} {ks vs : List D} (h : DR G F xs ws ks vs) (s : Same F F') : DR G F' xs ws ks vs := ⟨h.wv, h.kr.mono s, h.ke, h.vr.mono s⟩
theorem DR.len {xs : List EN} {ws : List V} {ks vs : List D} (h : DR G F xs ws ks vs) : xs.length = ks.length := by have := congrArg List.length h.ke; simpa using this.symm
theorem DR.nil : DR G F [] [] [] [] := ⟨.nil, .nil, rfl, .nil⟩
theorem DR.tail {x : EN} {xs : List EN} {w : V} {ws : List V} {k v : D} {ks vs : List D} (h : DR G F (x :: xs) (w :: ws) (k :: ks) (v :: vs)) : DR G F xs ws ks vs ∧ RelV w x.2.2 ∧ Rep G F (.ref x.2.1) k ∧ keyOf k = some x.1 ∧ Rep G F w v := by
  obtain ⟨h1, h2, h3, h4⟩ := h
  rw [List.map_cons, List.map_cons, List.cons.injEq] at h3
  cases h1 with
  | cons a b =>
    cases h2 with
    | cons c d =>
      cases h4 with
      | cons e f => exact ⟨⟨b, d, h3.2, f⟩, a, c, h3.1, e⟩
theorem DR.cons {x : EN} {xs : List EN} {w : V} {ws : List V} {k v : D} {ks vs : List D} (h : DR G F xs ws ks vs) (a : RelV w x.2.2) (b : Rep G F (.ref x.2.1) k) (c : keyOf k = some x.1) (d : Rep G F w v) : DR G F (x :: xs) (w :: ws) (k :: ks) (v :: vs) :=
  ⟨.cons a h.wv, .cons b h.kr, by rw [List.map_cons, List.map_cons, c, h.ke], .cons d h.vr⟩
theorem DR.shape {xs : List EN} {ws : List V} {ks vs : List D} (h : DR G F xs ws ks vs) : (xs = [] ∧ ws = [] ∧ ks = [] ∧ vs = []) ∨ ∃ x xs' w ws' k ks' v vs', xs = x :: xs' ∧ ws = w :: ws' ∧ ks = k :: ks' ∧ vs = v :: vs' := by
  obtain ⟨h1, h2, h3, h4⟩ := h
  cases xs with
  | nil => cases h1; cases h2; cases h4; exact .inl ⟨rfl, rfl, rfl, rfl⟩
  | cons x xs =>
    cases h1
    cases h2
    cases h4
    exact .inr ⟨_, _, _, _, _, _, _, _, rfl, rfl, rfl, rfl⟩
theorem DR.snoc {x : EN} {w : V} {k v : D} (a : RelV w x.2.2) (b : Rep G F (.ref x.2.1) k) (c : keyOf k = some x.1) (d : Rep G F w v) : ∀ {xs : List EN} {ws : List V} {ks vs : List D}, DR G F xs ws ks vs → DR G F (xs ++ [x]) (ws ++ [w]) (ks ++ [k]) (vs ++ [v])
  | xs, ws, ks, vs, h => by
    rcases h.shape with ⟨rfl, rfl, rfl, rfl⟩ | ⟨x', xs', w', ws', k', ks', v', vs', rfl, rfl, rfl, rfl⟩
    · exact DR.nil.cons a b c d
    · obtain ⟨t, e1, e2, e3, e4⟩ := h.tail
      exact (DR.snoc a b c d t).cons e1 e2 e3 e4
theorem DR.rep {q : NestedKey} {u : Value} {w : V} {d : D} (a : RelV w u) (b : Rep G F w d) : ∀ {xs : List EN} {ws : List V} {ks vs : List D}, DR G F xs ws ks vs → ∃ ws', DR G F (xs.map (putAt q u)) ws' ks (repK ks vs q d)
  | xs, ws, ks, vs, h => by
    rcases h.shape with ⟨rfl, rfl, rfl, rfl⟩ | ⟨x', xs', w', ws', k', ks', v', vs', rfl, rfl, rfl, rfl⟩
    · exact ⟨[], by rw [repK]; exact DR.nil; all_goals simp⟩
    · obtain ⟨t, e1, e2, e3, e4⟩ := h.tail
      obtain ⟨ws2, t2⟩ := DR.rep (q := q) a b t
      rw [repK, List.map_cons]
      by_cases hq : x'.1 = q
      · rw [if_pos (by rw [e3, hq])]
        have e : putAt q u x' = (x'.1, x'.2.1, u) := if_pos hq
        rw [e]
        exact ⟨w :: ws2, t2.cons a e2 e3 b⟩
      · rw [if_neg (by rw [e3]; intro z; exact hq (Option.some.inj z))]
        have e : putAt q u x' = x' := if_neg hq
        rw [e]
        exact ⟨w' :: ws2, t2.cons e1 e2 e3 e4⟩
theorem DR.set {q : NestedKey} {u : Value} {w : V} {b : Addr} {kd d : D} {xs : List EN} {ws : List V} {ks vs : List D} (h : DR G F xs ws ks vs) (a : RelV w u) (rb : Rep G F (.ref b) kd) (hk : keyOf kd = some q) (rw' : Rep G F w d) :
    ∃ ws', DR G F (storedH xs q b u) ws' (setK ks vs kd q d).1 (setK ks vs kd q d).2 := by
  unfold storedH setK
  rw [hasK_at h.ke]
  by_cases e : (atKey xs q).isSome = true
  · rw [if_pos e, if_pos e]
    exact DR.rep a rw' h
  · rw [if_neg e, if_neg e]
    exact ⟨_, DR.snoc (x := (q, b, u)) a rb hk rw' h⟩
theorem RdD.dr {v : V} {ks vs : List D} (s : Same F H) (h : RdD G F H v (.dic ks vs)) : ∃ a o xs ws, v = .ref a ∧ H a = some (.ext (isObj' a o)) ∧ (a == sysModules) = false ∧ DicO G o xs ∧ DR G F xs ws ks vs := by
  obtain ⟨a, o, xs, ws, rfl, h1, h2, h3, h4, h5, h6, h7⟩ := h.dic s
  exact ⟨a, o, xs, ws, rfl, h1, h2, h3, h4, h5, h6, h7⟩
theorem Own.dr {a : Addr} {o : Obj} {xs : List EN} {ws : List V} {ks vs : List D} (e : H a = some (.ext (isObj' a o))) (f : F a = none) (n : (a == sysModules) = false) (d : DicO G o xs) (r : DR G F xs ws ks vs) : Own G F H .flat (.ref a) (.dic ks vs) [a] :=
  .dic rfl e f n d r.wv r.kr r.ke (OwnAll.of_rep r.vr) (by simp)
end
section
variable {X : Cx} {pins : List (Addr × Obj)} {σ : L2.St} {H F : Hp} {s : Shared} {k : Nat}
theorem room8 (hr : Room k X.A) : (nestedKind X.prog X.w).room X.A.in1 := by
  have := hr.un
  show X.A.units + 1 + 8 < cLine
  omega
theorem dr_of (I : L2.Inv X pins σ H s) (sF : Same F H) {p : Addr} {o : Obj} {xs : List EN} {ws : List V} {ks vs : List D} (hp : H p = some (.ext (isObj' p o))) (dd : DicO (gOf X) o xs) (h : DR (gOf X) F xs ws ks vs) : s.heap.DictOfH (nestedKind X.prog X.w) p xs :=
  dic_of I sF hp dd h.kr h.ke
theorem key_is (I : L2.Inv X pins σ H s) (sF : Same F H) {b : Addr} {kd : D} {q : NestedKey} (r : Rep (gOf X) F (.ref b) kd) (h : keyT kd = some q) : (nestedKind X.prog X.w).is s.heap q b :=
  ⟨nested_of I sF r (keyT_some h).2.1 rfl, (keyT_some h).2.2⟩
/-- what stands behind a change -/
theorem dicO_of {p : Addr} {h' : Heap} {xs : List EN} (h : h'.DictOfH (nestedKind X.prog X.w) p xs) (hz : xs.length ≤ sizeLine) : ∃ o, h'.get? p = some o ∧ DicO (gOf X) o xs := by
  obtain ⟨o, es, ep, h1, h2, h3, h4, h5, h6⟩ := h
  exact ⟨o, h1, h2, ⟨es, ep, h3, h4⟩, h6, fun x hx => (h5 x hx).2, hz⟩
theorem ext_ok {p : Addr} {o : Obj} {h' : Heap} {P : Program} {w : World} {H' : Hp} (e : h'.get? p = some o) : ObjOk P w H' h' p (.ext (isObj' p o)) := ⟨e, ⟨o, e⟩, fun _ _ q k => k _ q⟩
theorem dicO_nil {o : Obj} (h : o = { cls := .type "dict", data := .dict #[] }) {G : GC} : DicO G o [] := by
  subst h
  exact ⟨⟨rfl, rfl, rfl⟩, ⟨#[], 0, rfl, rfl⟩, List.nodup_nil, (fun _ z => nomatch z), Nat.zero_le _⟩
theorem re_dic0 {W : Wi} {pos : Pos} : RE X W (.O .flat) (.Dict [] [] pos) (fun _ => .ok (.dic [] [])) := ⟨fun pins s σ H Q I ⟨H0, F0, fp, F, r, m, o⟩ => by
  have hn : (s.heap.objs.size == sysModules) = false := beq_eq_false_iff_ne.mpr (Ne.symm (Nat.ne_of_lt I.big))
  have hf := I.hok.fresh (Nat.le_refl _)
  refine wpAny_Dict_empty ⟨.ref s.heap.objs.size, _, I.laid (a := s.heap.objs.size) (o := .ext (isObj' s.heap.objs.size { cls := .type "dict", data := .dict #[] })) (t' := s.toks) (fun _ _ q => Heap.get?_push_of_some _ q) (Nat.le_refl _) (ext_ok (Heap.get?_push_size _ rfl)), rfl, ?_⟩
  exact o F _ (Grow.own m.sub hf) _ ⟨[_], Own.dr upd_same (m.sub.free hf) hn (dicO_nil rfl) DR.nil, fun a ha => by rw [List.mem_singleton.mp ha]; exact hf⟩⟩
end
def ixD (a i : D) : Res D := match a with
  | .dic ks vs => match keyT i with
    | some q => match getK ks vs q with
      | some d => .ok d
      | none => .bad
    | none => .bad
  | a => ixS a i
def notInD (x xs : D) : Res D := match xs with
  | .dic ks _ => match keyT x with
    | some q => .ok (.bl (!hasK ks q))
    | none => .bad
  | xs => notInS x xs
theorem ne_ixD : NoEr2 ixD := fun a b e z => by
  unfold ixD at z
  split at z
  · split at z
    · split at z <;> cases z
    · cases z
  · exact ne_ix _ _ _ z
theorem ne_notInD : NoEr2 notInD := fun a b e z => by
  unfold notInD at z
  split at z
  · split at z <;> cases z
  · exact ne_notIn _ _ _ z
section
variable {X : Cx} {W : Wi} {k : Nat} {a b c e : Expr} {fa fb fe : Env → Res D} {pos : Pos}
/-- a dict and a key -/
def rDK (X : Cx) (P : List EN → NestedKey → Hp → Prop) : V → V → Hp → Prop := fun x y H => ∃ (F : Hp) (p b : Addr) (o : Obj) (xs : List EN) (ws : List V) (ks vs : List D) (kd : D) (q : NestedKey), x = .ref p ∧ y = .ref b ∧ Same F H ∧ H p = some (.ext (isObj' p o)) ∧ (p == sysModules) = false ∧
  DicO (gOf X) o xs ∧ DR (gOf X) F xs ws ks vs ∧ Rep (gOf X) F (.ref b) kd ∧ keyT kd = some q ∧ P xs q H
theorem ix_dic (hr : Room k X.A) : IxR X (fun x y H Q => rDK X (fun xs q H => ∃ e v, atKey xs q = some e ∧ RelV v e.2 ∧ Q v H) x y H) := by
  intro value slice pins s σ H x y u1 u2 Q I r1 r2 h hs
  obtain ⟨F, p, b, o, xs, ws, ks, vs, kd, q, rfl, rfl, sF, hp, hn, dd, dr, rk, hk, e, v, he, rv, hq⟩ := h
  cases r1
  cases r2
  exact tail_any (dr_of I sF hp dd dr).typeIs slot_dict_getitem.lookup (wpAny_getItem_heap (room8 hr) (key_is I sF rk hk) (dr_of I sF hp dd dr) he ⟨v, H, I.tok _, rv, hq⟩) hs
theorem op_notInDic (hr : Room k X.A) : OpR X (compareOp .NotIn) (fun y x H Q => rDK X (fun xs q H => Q (.bl (!(atKey xs q).isSome)) H) x y H) := by
  intro pins s σ H y x u2 u1 Q I r2 r1 h
  obtain ⟨F, p, b, o, xs, ws, ks, vs, kd, q, rfl, rfl, sF, hp, hn, dd, dr, rk, hk, hq⟩ := h
  cases r1
  cases r2
  exact wpAny_notIn_heap (room8 hr) (key_is I sF rk hk) hn (dr_of I sF hp dd dr) ⟨.bl _, H, I.tok _, rfl, hq⟩
theorem key_ref {G : GC} {F H : Hp} {y : V} {kd : D} {q : NestedKey} (h : RdD G F H y kd) (hk : keyT kd = some q) : ∃ b, y = .ref b ∧ Rep G F (.ref b) kd := by
  obtain ⟨⟨xs, rfl⟩, _⟩ := keyT_some hk
  have z := h.tupS
  cases z with
  | tup h1 h2 => exact ⟨_, rfl, .tup h1 h2⟩
theorem ixD_ok : OpD (gOf X) (fun x y H Q => rIx X.K x y H Q ∨ rDK X (fun xs q H => ∃ e v, atKey xs q = some e ∧ RelV v e.2 ∧ Q v H) x y H) .R .R .S ixD := fun F H x y a b d Q Ha Hb s ka kb e k => by
  unfold ixD at e
  split at e
  · rename_i ks vs
    split at e
    · rename_i q hq
      split at e <;> cases e
      rename_i hg
      obtain ⟨p, o, xs, ws, rfl, h1, h2, h3, h4⟩ := RdD.dr s (show RdD (gOf X) F H x _ from ka)
      obtain ⟨b', rfl, rb⟩ := key_ref (show RdD (gOf X) F H y _ from kb) hq
      rcases getK_at (q := q) h4.wv h4.ke h4.vr with ⟨z, _⟩ | ⟨d', e', v, z1, z2, z3, z4⟩
      · rw [hg] at z; cases z
      · rw [hg] at z1
        cases z1
        exact .inr ⟨F, p, b', o, xs, ws, ks, vs, _, q, rfl, rfl, s, h1, h2, h3, h4, rb, hq, e', v, z2, z3, k v F H (Grow.refl s) z4⟩
    · cases e
  · exact .inl (ix_ok F H x y _ b d Q Ha Hb s ka kb e k)
theorem re_ix (hr : Room k X.A) (ha : RE X W .R a fa) (hb : RE X W .R b fb) (hs : PlainIx b := by intro _ _; rfl) : RE X W .S (.Subscript a b pos) (fun r => fa r >>= fun x => fb r >>= fun y => ixD x y) := (pe_ix (ix_seq.or (ix_dic hr)) ha hb hs).imp (t_op ixD_ok ne_ixD)
theorem notInD_ok : OpD (gOf X) (fun y x H Q => rNotInD X.K y x H Q ∨ rDK X (fun xs q H => Q (.bl (!(atKey xs q).isSome)) H) x y H) .R .R .S notInD := fun F H y x b a d Q Ha Hb s kb ka e k => by
  unfold notInD at e
  split at e
  · rename_i ks vs
    split at e <;> cases e
    rename_i q hq
    obtain ⟨p, o, xs, ws, rfl, h1, h2, h3, h4⟩ := RdD.dr s (show RdD (gOf X) F H x _ from ka)
    obtain ⟨b', rfl, rb⟩ := key_ref (show RdD (gOf X) F H y _ from kb) hq
    exact .inr ⟨F, p, b', o, xs, ws, ks, vs, _, q, rfl, rfl, s, h1, h2, h3, h4, rb, hq, by show Q _ H; rw [← hasK_at h4.ke]; exact k _ F H (Grow.refl s) (Rep.bl _)⟩
  · exact .inl (notIn_ok F H y x b _ d Q Ha Hb s kb ka e k)
theorem c_notIn (hr : Room k X.A) : Cmp X .NotIn notInD := ⟨⟨_, (op_notInD (units65 hr)).or (op_notInDic hr), notInD_ok⟩, ne_notInD⟩
end
/-- the thing that the i-th name owns -/
def ownF (i : Nat) (r : Env) : Option D := match r[i]? with
  | some (.ow .flat d) => some d
  | _ => none
theorem ownF_some {i : Nat} {r : Env} {d : D} (h : ownF i r = some d) : r[i]? = some (.ow .flat d) := by
  unfold ownF at h
  split at h
  · rename_i e; cases h; exact e
  · cases h
/-- what stands behind d[i] = v -/
def setD (d i v : D) : Res D := match d with
  | .dic ks vs => match keyT i with
    | some q => if ks.length < lim then .ok (.dic (setK ks vs i q v).1 (setK ks vs i q v).2) else .bad
    | none => .bad
  | .lst ds => match i with
    | .int n => match ixN ds.length n with
      | some j => .ok (.lst (ds.set j v))
      | none => .bad
    | _ => .bad
  | _ => .bad
def setG (i : Nat) (fv fi : Env → Res D) (r : Env) : Oc := lift (fv r) r fun v => match ownF i r with
  | some d => lift (fi r) r fun n => match setD d n v with
    | .ok d' => .nx (r.set i (.ow .flat d'))
    | _ => .bad
  | none => .bad
section
variable {G : GC} {J : L2.St → Prop} {H0 F0 F H : Hp} {fp : Nat → List Addr} {σ : L2.St} {r : Env}
theorem MS.dic (m : MS G J H0 F0 fp F σ H r) {i : Nat} {ks vs : List D} (h : r[i]? = some (.ow .flat (.dic ks vs))) : ∃ a o xs ws, σ[i]? = some (some (.ref a)) ∧ H a = some (.ext (isObj' a o)) ∧ (a == sysModules) = false ∧ DicO G o xs ∧ DR G F xs ws ks vs ∧ fp i = [a] := by
  obtain ⟨⟨v, h1, h2⟩, _⟩ := m.ow i _ _ h
  generalize fp i = A at h2
  cases h2 with
  | dic _ e _ z1 z2 z3 z4 z5 ra na =>
    obtain ⟨rfl, rr⟩ := ra.to_rep
    exact ⟨_, _, _, _, h1, e, z1, z2, ⟨z3, z4, z5, rr⟩, rfl⟩
theorem MS.dicUpd (m : MS G J H0 F0 fp F σ H r) {i : Nat} {d : D} {a : Addr} {o : Obj} {xs : List EN} {ws : List V} {ks vs : List D} (h : r[i]? = some (.ow .flat d)) (hv : σ[i]? = some (some (.ref a))) (hf : fp i = [a]) (hn : (a == sysModules) = false) (dd : DicO G o xs) (dr : DR G F xs ws ks vs) :
    ∃ fp', MS G J H0 F0 fp' F σ (upd H a (.ext (isObj' a o))) (r.set i (.ow .flat (.dic ks vs))) := by
  obtain ⟨⟨v, h1, h2⟩, _⟩ := m.ow i _ _ h
  have fa := (h2.there a (by rw [hf]; simp)).1
  exact m.write (A := [a]) h hv (by rw [hf]; simp) (Own.dr upd_same fa hn dd dr) fun b hb => .inl (by rw [hf]; exact hb)
end
section
variable {X : Cx} {W : Wi} {k : Nat} {kk : Kd} {e iv : Expr} {fe fi : Env → Res D} {pos ps p2 apos cpos : Pos} {x : Str}
def rSetDic (X : Cx) : TSet := fun ov i v H Q => rDK X (fun xs q H => xs.length ≤ lim ∧ ∀ p b o' u, ov = .ref p → i = .ref b → RelV v u → DicO (gOf X) o' (storedH xs q b u) → Q (upd H p (.ext (isObj' p o')))) ov i H
theorem storedH_len (xs : List EN) (q : NestedKey) (b : Addr) (u : Value) : (storedH xs q b u).length ≤ xs.length + 1 := by
  unfold storedH
  split
  · simp
  · simp
theorem set_dic (hr : Room k X.A) : PSet X (rSetDic X) := by
  intro pins s σ H ov i v uo ui u Q I ro ri rv h
  obtain ⟨F, p, b, o, xs, ws, ks, vs, kd, q, rfl, rfl, sF, hp, hn, dd, dr, rk, hk, hl, hq⟩ := h
  cases ro
  cases ri
  refine wpAny_setItem_heap (hsz := dd.sz) (room8 hr) (key_is I sF rk hk) (dr_of I sF hp dd dr) fun h' hm' hs => ?_
  have hz : (storedH xs q b u).length ≤ sizeLine := by
    have h1 := storedH_len xs q b u
    have h2 : lim + 1 ≤ sizeLine := by rw [sizeLine_eq]; decide
    omega
  obtain ⟨o', e1, e2⟩ := dicO_of hm' hz
  exact ⟨_, d_write I (by rw [hp]; exact True.intro) hs ⟨o', e1⟩ (ext_ok e1), hq p b o' u rfl rfl rv e2⟩
theorem PSet.or {t t' : TSet} (h : PSet X t) (h' : PSet X t') : PSet X (fun o i v H Q => t o i v H Q ∨ t' o i v H Q) := by
  intro pins s σ H ov i v uo ui u Q I ro ri rv q
  rcases q with q | q
  · exact h pins s σ H ov i v uo ui u Q I ro ri rv q
  · exact h' pins s σ H ov i v uo ui u Q I ro ri rv q
theorem rs_setItem (i : Nat) (hr : Room k X.A) (he : RE X W .S e fe) (hi : RE X W .R iv fi) (hN : X.N[i]? = some x := by rfl) (hv : Vis X.env.scope x := by first | exact Or.inl rfl | exact Or.inr (Or.inl rfl) | exact Or.inr (Or.inr rfl)) (hd : (x == ("__debug__" : Str)) = false := by decide)
    (hcd : (x == ("__classdict__" : Str)) = false := by decide) (ha : ∀ v, assign (.Subscript (.Name x ps) iv p2) X.env v = (do
      let ov ← holding [v] (eval (.Name x ps) X.env)
      let iv ← holding [v, ov] (eval iv X.env)
      standAt p2
      holding [v, ov, iv] (setItem ov iv v)
      release [v, ov, iv] []) := by intro _; rfl)
    (hs : swapsWithSole [.Subscript (.Name x ps) iv p2] e pos.line X.env = pure false := by rfl) (hw : swappedStores [.Subscript (.Name x ps) iv p2] e X.env = pure none := by rfl) (h1 : (assignEach [.Subscript (.Name x ps) iv p2] X.env).map (·.2) = [assign (.Subscript (.Name x ps) iv p2) X.env] := by rfl) :
    RS X W kk (.Assign [.Subscript (.Name x ps) iv p2] e pos) (setG i fe fi) :=
  (ps_asg he (pg_sub (pe_var hN hv hd hcd) hi (PSet.or set_list (set_dic hr)) ha) hs hw h1).imp fun D σ H ⟨H0, F0, fp, F, r, m, o⟩ => ⟨H0, F0, fp, F, r, m, OutS.lift m o fun F' H' d gr o' v kv => by
    split at o'
    · rename_i dd ho
      have hi := ownF_some ho
      have m' := m.grow gr
      cases dd with
      | lst ds =>
        obtain ⟨a, vs, h1, h2, h3, h4⟩ := m'.lst hi
        refine ⟨.ref a, h1, H0, F0, fp, F', r, m', OutS.lift m' o' fun F2 H2 n g2 o2 u ku => ?_⟩
        cases n with
        | int n =>
          unfold setD at o2
          simp only at o2
          split at o2
          · rename_i z hz
            split at hz
            · rename_i j hj
              cases hz
              obtain ⟨fp', m2⟩ := (m'.grow g2).lstUpd hi h1 h4 ((h3.mono g2.f).set (Mir.Rep.mono g2.f kv) j)
              exact .inl ⟨a, vs, n, j, rfl, RdD.int ku, g2.h.at _ _ h2, by rw [h3.length]; exact hj, o2 fp' F2 σ _ (Same.refl _) m2⟩
            · cases hz
          · exact o2.elim
        | _ => exact o2.elim
      | dic ks vs =>
        obtain ⟨a, ob, xs, ws, h1, h2, h3, h4, h5, h6⟩ := m'.dic hi
        refine ⟨.ref a, h1, H0, F0, fp, F', r, m', OutS.lift m' o' fun F2 H2 n g2 o2 u ku => ?_⟩
        unfold setD at o2
        simp only at o2
        split at o2
        · rename_i z hz
          split at hz
          · rename_i q hq
            split at hz <;> cases hz
            rename_i hl
            obtain ⟨b, rfl, rb⟩ := key_ref (show RdD (gOf X) F2 H2 u _ from ku) hq
            have h5' := h5.mono g2.f
            refine .inr ⟨F2, a, b, ob, xs, ws, ks, vs, n, q, rfl, rfl, g2.sub, g2.h.at _ _ h2, h3, h4, h5', rb, hq, by rw [h5.len]; exact Nat.le_of_lt hl, fun p b' ob' uu ep eb ru dd' => ?_⟩
            cases ep
            cases eb
            obtain ⟨ws', dr'⟩ := h5'.set ru rb (keyT_some hq).2.1 (Mir.Rep.mono g2.f kv)
            obtain ⟨fp', m2⟩ := (m'.grow g2).dicUpd hi h1 h6 h3 dd' dr'
            exact o2 fp' F2 σ _ (Same.refl _) m2
          · cases hz
        · exact o2.elim
      | _ =>
        obtain ⟨⟨v', h1, _⟩, _⟩ := m'.ow i _ _ hi
        refine ⟨v', h1, H0, F0, fp, F', r, m', OutS.lift m' o' fun F2 H2 n g2 o2 u ku => ?_⟩
        exact o2.elim
    · exact o'.elim⟩
end
end Mir
namespace Mir
open PySem PySem.Spec PyProof.Rows L2
variable [Tn]
section
variable {prog : Program} {w : World} {K : Type} [DecidableEq K] {knd : HeapKind prog w K} {A : Around} {E : Value → Shared → Prop} {s : Shared}
def EqT (prog : Program) (w : World) (A : Around) (s : Shared) (y x : Value) (b : Bool) : Prop := ∀ (E : Value → Shared → Prop) (Q : Bool → Shared → Prop), Q b s → wpAny (model prog w) A (eqBool y x) Q E s
inductive HitsH (prog : Program) (w : World) (A : Around) (s : Shared) (ys : List (K × Addr × Value)) : List (K × Addr × Value) → Bool → Prop
  | nil : HitsH prog w A s ys [] true
  | miss {x : K × Addr × Value} {r : List (K × Addr × Value)} : atKey ys x.1 = none → HitsH prog w A s ys (x :: r) false
  | hit {x : K × Addr × Value} {e : Addr × Value} {r : List (K × Addr × Value)} {b : Bool} : atKey ys x.1 = some e → EqT prog w A s x.2.2 e.2 true → HitsH prog w A s ys r b → HitsH prog w A s ys (x :: r) b
  | not {x : K × Addr × Value} {e : Addr × Value} {r : List (K × Addr × Value)} : atKey ys x.1 = some e → EqT prog w A s x.2.2 e.2 false → HitsH prog w A s ys (x :: r) false
theorem atKey_of {xs : List (K × Addr × Value)} (hn : (xs.map (·.1)).Nodup) {j : Nat} {k : K} {p : Addr × Value} (h : xs[j]? = some (k, p)) : atKey xs k = some p := by
  induction xs generalizing j with
  | nil => simp at h
  | cons x xs ih =>
    rw [List.map_cons, List.nodup_cons] at hn
    cases j with
    | zero =>
      simp at h
      subst h
      simp [atKey, List.find?_cons]
    | succ j =>
      have h' : xs[j]? = some (k, p) := by simpa using h
      have ne : x.1 ≠ k := fun e => hn.1 (by rw [e]; exact List.mem_map.mpr ⟨(k, p), List.mem_of_getElem? h', rfl⟩)
      have := ih hn.2 h'
      simpa [atKey, List.find?_cons, ne] using this
theorem atKey_no {xs : List (K × Addr × Value)} {k : K} (h : ∀ (j : Nat) (p : Addr × Value), xs[j]? ≠ some (k, p)) : atKey xs k = none := by
  induction xs with
  | nil => rfl
  | cons x xs ih =>
    have ne : x.1 ≠ k := fun e => h 0 x.2 (by simp [← e])
    have := ih fun j p z => h (j + 1) p (by simpa using z)
    simpa [atKey, List.find?_cons, ne] using this
theorem samePairsH {nm : String} {a b : Addr} {xs ys : List (K × Addr × Value)} {r : Bool} {Q : Bool → Shared → Prop} (hu : knd.room A) (ha : (a == sysModules) = false) (hb : (b == sysModules) = false)
    (da : s.heap.DictOfH knd a xs) (db : s.heap.DictOfH knd b ys) (hits : xs.length = ys.length → HitsH prog w A s ys xs r) (h : Q (xs.length == ys.length && r) s) :
    wpAny (model prog w) A (Builtin.Dict.samePairs nm a b) Q E s := by
  obtain ⟨oa, es, ep, hoa, _, hda, hea, hia, hna⟩ := da
  obtain ⟨ob, fs, eq, hob, _, hdb, heb, hib, hnb⟩ := db
  have hla := size_of_entries hea
  have hlb := size_of_entries heb
  rw [← hla, ← hlb] at h hits
  unfold Builtin.Dict.samePairs Builtin.Dict.showsAll
  rw [if_neg (show ¬ (a == sysModules) = true by rw [ha]; decide), if_neg (show ¬ (b == sysModules) = true by rw [hb]; decide)]
  refine wpAny_bind (wpAny_pure (wpAny_bind (wpAny_pure (wpAny_bind (wpAny_dictEntries hoa hda ?_)))))
  dsimp only
  refine wpAny_bind (wpAny_dictEntries hob hdb ?_)
  by_cases hsz : es.size = fs.size
  case neg =>
    rw [if_pos (by simpa using hsz)]
    rw [beq_eq_false_iff_ne.mpr hsz, Bool.false_and] at h
    exact wpAny_bind (wpAny_rule (wpAny_pure h))
  case pos =>
    have h' : Q r s := by simpa [hsz] using h
    have hh := hits hsz
    rw [if_neg (by rw [hsz]; simp)]
    refine wpAny_bind (wpAny_dictEpoch hoa hda (wpAny_bind ?_))
    rw [Std.Legacy.Range.forIn_eq_forIn_range']; simp only [Std.Legacy.Range.size, Nat.sub_zero, Nat.add_sub_cancel, Nat.div_one]
    refine wpAny_forIn_list _ (fun rest q t => t = s ∧ q = (none, ()) ∧ ∃ i, rest = List.range' i (es.size - i) ∧ i ≤ es.size ∧ HitsH prog w A s ys (xs.drop i) r) _ ?_ ?_ _ _ ⟨rfl, rfl, 0, by simp, Nat.zero_le _, hh⟩
    · rintro j rest q t ⟨rfl, rfl, i, hr, hi, hp⟩
      have hlt : i < es.size := by
        rcases Nat.lt_or_ge i es.size with z | z
        · exact z
        · rw [Nat.sub_eq_zero_of_le z] at hr; simp at hr
      obtain ⟨rfl, hrest⟩ : j = i ∧ rest = List.range' (i + 1) (es.size - (i + 1)) := by
        rw [show es.size - i = (es.size - (i + 1)) + 1 by omega, List.range'_succ] at hr
        injection hr with h1 h2
        exact ⟨h1, h2⟩
      have hlx : j < xs.length := by rw [← hla]; exact hlt
      have hej : es[j]? = some (entryOfKey knd xs[j]) := by rw [entry_at hea j, List.getElem?_eq_getElem hlx]; rfl
      have hmem : xs[j] ∈ xs := List.getElem_mem hlx
      refine wpAny_bind (wpAny_dictEntries hoa hda ?_)
      rw [hej]
      rw [List.drop_eq_getElem_cons hlx] at hp
      generalize hx : xs[j] = x at hp hmem
      show wpAny _ _ (holding [Value.ref x.2.1, x.2.2] _ >>= _) _ _ _
      refine wpAny_bind (wpAny_holding (wpAny_bind (wpAny_dictFind_heap hu (hia x hmem) hob hdb heb hib hnb (fun no => ?_) fun jj p hp' => ?_)))
      · have hn := atKey_no no
        have er : r = false := by
          cases hp with
          | miss => rfl
          | hit z => rw [hn] at z; cases z
          | not z => rfl
        rw [er] at h'
        refine wpAny_pure ?_
        show wpAny _ _ (if (!false) = true then _ else _) _ _ _
        rw [if_pos (by decide)]
        exact wpAny_pure (wpAny_pure h')
      · have hs := atKey_of hnb hp'
        have hf : fs[jj]? = some (entryOfKey knd (x.1, p)) := by rw [entry_at heb jj, hp']; rfl
        refine wpAny_bind (wpAny_dictEntries hob hdb ?_)
        rw [hf]
        cases hp with
        | miss z => rw [hs] at z; cases z
        | not z hq =>
          rw [hs] at z
          cases z
          refine wpAny_holding (hq _ _ ?_)
          show wpAny _ _ (if (!false) = true then _ else _) _ _ _
          rw [if_pos (by decide)]
          exact wpAny_pure (wpAny_pure h')
        | hit z hq ht =>
          rw [hs] at z
          cases z
          refine wpAny_holding (hq _ _ ?_)
          show wpAny _ _ (if (!true) = true then _ else _) _ _ _
          rw [if_neg (by decide)]
          refine wpAny_bind (wpAny_dictEpoch hoa hda ?_)
          rw [if_neg (by simp)]
          exact wpAny_pure ⟨rfl, rfl, j + 1, hrest, hlt, ht⟩
    · rintro q t ⟨rfl, rfl, i, hr, hi, hp⟩
      have hin : i = es.size := by
        rcases Nat.lt_or_ge i es.size with z | z
        · rw [show es.size - i = (es.size - (i + 1)) + 1 by omega, List.range'_succ] at hr; exact nomatch hr
        · exact Nat.le_antisymm hi z
      refine wpAny_pure ?_
      rw [hin, hla, List.drop_length] at hp
      cases hp
      exact h'
theorem cmpH {op : CmpOp} {b : Bool} {a c : Addr} {xs ys : List (K × Addr × Value)} {r : Bool} {Q : Value → Shared → Prop} (ho : (op = .Eq ∧ b = true) ∨ (op = .NotEq ∧ b = false)) (hu : knd.room A.in1) (hv : A.units < cLine) (ha : (a == sysModules) = false) (hc : (c == sysModules) = false)
    (da : s.heap.DictOfH knd a xs) (dc : s.heap.DictOfH knd c ys) (hits : xs.length = ys.length → HitsH prog w A.in1 s ys xs r) (h : Q (.bool (if b = true then (xs.length == ys.length && r) else !(xs.length == ys.length && r))) s) :
    wpAny (model prog w) A (compareOp op (.ref a) (.ref c)) Q E s := by
  rcases ho with ⟨rfl, rfl⟩ | ⟨rfl, rfl⟩
  · refine wpAny_richCompare_same_room (op := .Eq) da.typeIs dc.typeIs PySem.F.slot_dict_eq (wpAny_call_entry PySem.F.slot_dict_eq da.typeIs PySem.F.entry_dict_eq ?_ (PySem.F.args_dict_eq_2 _ _)) hv
    show wpAny _ _ (Builtin.Dict.dictSlotArgs "__eq__" ⟨[.ref a, .ref c], []⟩ >>= _) _ _ s
    unfold Builtin.Dict.dictSlotArgs
    refine wpAny_bind (wpAny_bind (wpAny_notOrdered_dict da.typeIs ?_))
    show wpAny _ _ (pure (Value.ref a, Value.ref c)) _ _ s
    refine wpAny_pure (wpAny_bind (wpAny_isInstance (T := "dict") dc.typeIs PySem.F.sub_dict_dict ?_))
    simp only [Bool.not_true, Bool.false_eq_true, if_false]; refine wpAny_bind (wpAny_pure (wpAny_bind (wpAny_pure (wpAny_bind (samePairsH hu ha hc da dc hits ?_)))))
    exact wpAny_pure ⟨_, rfl, ⟨(fun x => nomatch x), by simpa using h⟩⟩
  · refine wpAny_richCompare_same_room (op := .NotEq) da.typeIs dc.typeIs PySem.F.slot_dict_ne (wpAny_call_entry PySem.F.slot_dict_ne da.typeIs PySem.F.entry_dict_ne ?_ (PySem.F.args_dict_ne_2 _ _)) hv
    show wpAny _ _ (Builtin.Dict.dictSlotArgs "__ne__" ⟨[.ref a, .ref c], []⟩ >>= _) _ _ s
    unfold Builtin.Dict.dictSlotArgs
    refine wpAny_bind (wpAny_bind (wpAny_notOrdered_dict da.typeIs ?_))
    show wpAny _ _ (pure (Value.ref a, Value.ref c)) _ _ s
    refine wpAny_pure (wpAny_bind (wpAny_isInstance (T := "dict") dc.typeIs PySem.F.sub_dict_dict ?_))
    simp only [Bool.not_true, Bool.false_eq_true, if_false]; refine wpAny_bind (wpAny_pure (wpAny_bind (wpAny_pure (wpAny_bind (samePairsH hu ha hc da dc hits ?_)))))
    exact wpAny_pure ⟨_, rfl, ⟨(fun x => nomatch x), by simpa using h⟩⟩
end
/-- whether the values stand in the other table, too -/
def sameK : List D → List D → List D → List D → Option Bool
  | k :: ks, v :: vs, ks2, vs2 => match keyOf k with
    | some q => match getK ks2 vs2 q with
      | none => some false
      | some u => match eqS v u with
        | .ok (.bl true) => sameK ks vs ks2 vs2
        | .ok (.bl false) => some false
        | _ => none
    | none => none
  | _, _, _, _ => some true
def sameD (ks vs ks2 vs2 : List D) : Option Bool := if ks.length = ks2.length then sameK ks vs ks2 vs2 else some false
def eqD (a b : D) : Res D := match a, b with
  | .dic ks vs, .dic ks2 vs2 => match sameD ks vs ks2 vs2 with
    | some b => .ok (.bl b)
    | none => .bad
  | a, b => eqS a b
def neD (a b : D) : Res D := match a, b with
  | .dic ks vs, .dic ks2 vs2 => match sameD ks vs ks2 vs2 with
    | some b => .ok (.bl (!b))
    | none => .bad
  | a, b => neS a b
theorem ne_eqD : NoEr2 eqD := fun a b e z => by
  unfold eqD at z
  split at z
  · split at z <;> cases z
  · exact ne_eq _ _ _ z
theorem ne_neD : NoEr2 neD := fun a b e z => by
  unfold neD at z
  split at z
  · split at z <;> cases z
  · exact ne_ne _ _ _ z
section
variable {X : Cx} {pins : List (Addr × Obj)} {σ : L2.St} {H F : Hp} {s : Shared} {k : Nat}
theorem eqT_of (I : L2.Inv X pins σ H s) (sF : Same F H) (hr : X.A.units + 65 < cLine) {v u : V} {x y : Value} {d e : D} {b : Bool} (h : eqS d e = .ok (.bl b)) (rv : Rep (gOf X) F v d) (ru : Rep (gOf X) F u e) (hx : RelV v x) (hy : RelV u y) : EqT X.prog X.w X.A.in1 s x y b := by
  unfold eqS at h
  split at h
  · rename_i p q h1 h2
    split at h
    · rename_i hs
      injection h with h
      injection h with h
      subst h
      obtain ⟨as, r1⟩ := Dp.reads I p v x (rv.dp sF h1) hx
      obtain ⟨bs, r2⟩ := Dp.reads I q u y (ru.dp sF h2) hy
      have z := PySem.W.keq_at (A := X.A) r1 r2 hs.1 hs.2 (show X.A.units + 1 + 64 < cLine by omega)
      exact fun E Q hq => z X.prog X.w E Q hq
    · cases h
  · cases h
theorem hits_of (I : L2.Inv X pins σ H s) (sF : Same F H) (hr : X.A.units + 65 < cLine) {ys : List EN} {us : List V} {ks2 vs2 : List D} (h2 : DR (gOf X) F ys us ks2 vs2) : ∀ {xs : List EN} {ws : List V} {ks vs : List D} {b : Bool}, DR (gOf X) F xs ws ks vs → sameK ks vs ks2 vs2 = some b → HitsH X.prog X.w X.A.in1 s ys xs b
  | xs, ws, ks, vs, b, h, e => by
    rcases h.shape with ⟨rfl, rfl, rfl, rfl⟩ | ⟨x, xs', w, ws', k, ks', v, vs', rfl, rfl, rfl, rfl⟩
    · simp [sameK] at e
      subst e
      exact .nil
    · obtain ⟨t, e1, e2, e3, e4⟩ := h.tail
      rw [sameK, e3] at e
      simp only at e
      rcases getK_at (q := x.1) h2.wv h2.ke h2.vr with ⟨z1, z2⟩ | ⟨d, en, u, z1, z2, z3, z4⟩
      · rw [z1] at e
        cases e
        exact .miss z2
      · rw [z1] at e
        simp only at e
        split at e
        · rename_i he
          exact .hit z2 (eqT_of I sF hr he e4 z4 e1 z3) (hits_of I sF hr h2 t e)
        · rename_i he
          cases e
          exact .not z2 (eqT_of I sF hr he e4 z4 e1 z3)
        · cases e
def rDD (X : Cx) (P : Bool → Hp → Prop) : V → V → Hp → Prop := fun x y H => ∃ (F : Hp) (p p2 : Addr) (o o2 : Obj) (xs ys : List EN) (ws us : List V) (ks vs ks2 vs2 : List D) (b : Bool), x = .ref p ∧ y = .ref p2 ∧ Same F H ∧ H p = some (.ext (isObj' p o)) ∧ (p == sysModules) = false ∧
  DicO (gOf X) o xs ∧ DR (gOf X) F xs ws ks vs ∧ H p2 = some (.ext (isObj' p2 o2)) ∧ (p2 == sysModules) = false ∧ DicO (gOf X) o2 ys ∧ DR (gOf X) F ys us ks2 vs2 ∧ sameD ks vs ks2 vs2 = some b ∧ P b H
theorem op_cmpH (hr : Room k X.A) {op : CmpOp} {c : Bool} (ho : (op = .Eq ∧ c = true) ∨ (op = .NotEq ∧ c = false)) : OpR X (compareOp op) (fun x y H Q => rDD X (fun b H => Q (.bl (if c = true then b else !b)) H) x y H) := by
  intro pins s σ H x y u1 u2 Q I r1 r2 h
  obtain ⟨F, p, p2, o, o2, xs, ys, ws, us, ks, vs, ks2, vs2, b, rfl, rfl, sF, hp, hn, dd, dr, hp2, hn2, dd2, dr2, hb, hq⟩ := h
  cases r1
  cases r2
  have hu := hr.un
  unfold sameD at hb
  rw [← dr.len, ← dr2.len] at hb
  split at hb
  · rename_i hl
    refine cmpH ho (room8 hr) (by omega) hn hn2 (dr_of I sF hp dd dr) (dr_of I sF hp2 dd2 dr2) (fun _ => hits_of I sF (by omega) dr2 dr hb) ⟨.bl (if c = true then b else !b), H, I, ?_, hq⟩
    rw [hl, beq_self_eq_true, Bool.true_and] <;> rfl
  · rename_i hl
    cases hb
    refine cmpH (r := true) ho (room8 hr) (by omega) hn hn2 (dr_of I sF hp dd dr) (dr_of I sF hp2 dd2 dr2) (fun z => (hl z).elim) ⟨.bl (if c = true then false else !false), H, I, ?_, hq⟩
    rw [beq_eq_false_iff_ne.mpr hl, Bool.false_and] <;> rfl
theorem eqD_ok' : OpD (gOf X) (fun x y H Q => rEqD X.K x y H Q ∨ rDD X (fun b H => Q (.bl (if true = true then b else !b)) H) x y H) .R .R .S eqD := fun F H x y a b d Q Ha Hb s ka kb e k => by
  unfold eqD at e
  split at e
  · split at e <;> cases e
    rename_i hb
    obtain ⟨p, o, xs, ws, rfl, h1, h2, h3, h4⟩ := RdD.dr s (show RdD (gOf X) F H x _ from ka)
    obtain ⟨p', o', xs', ws', rfl, h1', h2', h3', h4'⟩ := RdD.dr s (show RdD (gOf X) F H y _ from kb)
    exact .inr ⟨F, p, p', o, o', xs, xs', ws, ws', _, _, _, _, _, rfl, rfl, s, h1, h2, h3, h4, h1', h2', h3', h4', hb, k _ F H (Grow.refl s) (Rep.bl _)⟩
  · exact .inl (eq_ok F H x y _ _ d Q Ha Hb s ka kb e k)
theorem neD_ok' : OpD (gOf X) (fun x y H Q => rNeD X.K x y H Q ∨ rDD X (fun b H => Q (.bl (if false = true then b else !b)) H) x y H) .R .R .S neD := fun F H x y a b d Q Ha Hb s ka kb e k => by
  unfold neD at e
  split at e
  · split at e <;> cases e
    rename_i hb
    obtain ⟨p, o, xs, ws, rfl, h1, h2, h3, h4⟩ := RdD.dr s (show RdD (gOf X) F H x _ from ka)
    obtain ⟨p', o', xs', ws', rfl, h1', h2', h3', h4'⟩ := RdD.dr s (show RdD (gOf X) F H y _ from kb)
    exact .inr ⟨F, p, p', o, o', xs, xs', ws, ws', _, _, _, _, _, rfl, rfl, s, h1, h2, h3, h4, h1', h2', h3', h4', hb, k _ F H (Grow.refl s) (Rep.bl _)⟩
  · exact .inl (ne_ok F H x y _ _ d Q Ha Hb s ka kb e k)
theorem c_eq (hr : Room k X.A) : Cmp X .Eq eqD := ⟨⟨_, (op_eqD hr.units).or (op_cmpH hr (.inl ⟨rfl, rfl⟩)), eqD_ok'⟩, ne_eqD⟩
theorem c_ne (hr : Room k X.A) : Cmp X .NotEq neD := ⟨⟨_, (op_neD hr.units).or (op_cmpH hr (.inr ⟨rfl, rfl⟩)), neD_ok'⟩, ne_neD⟩
end
section
variable {prog : Program} {w : World} {A : Around} {E : Value → Shared → Prop} {s : Shared}
theorem dictCopyH {o : Addr} {xs : List EN} {Q : Value → Shared → Prop} (hu : (nestedKind prog w).room A.in1.in1) (hoS : (o == sysModules) = false) (ho : s.heap.DictOfH (nestedKind prog w) o xs) (hsz : xs.length ≤ sizeLine) (hap : (xs.map fun x => (nestedKind prog w).hash x.1).Nodup)
    (h : ∀ h', h'.DictOfH (nestedKind prog w) s.heap.objs.size xs → Heap.SameBut s.heap.objs.size (s.heap.push { cls := .type "dict", data := .dict #[] }) h' → Q (.ref s.heap.objs.size) { s with heap := h' }) :
    wpAny (model prog w) A (call (.type "dict") [.ref o]) Q E s := by
  refine callType_codes (Q₁ := fun ob t => ob = .ref s.heap.objs.size ∧ t = { s with heap := s.heap.push { cls := .type "dict", data := .dict #[] } }) F.kt_called_dict (F.kt_typeCall_dict_1 _) F.entry_dict_init (kt_code_dict_new _ ⟨rfl, rfl⟩) ?_
  rintro ob t ⟨rfl, rfl⟩
  have hnew : (s.heap.push { cls := .type "dict", data := .dict #[] }).DictOfH (nestedKind prog w) s.heap.objs.size [] := Heap.DictOfH.new s.heap
  have hty := keyed_apart nestedKind_stays ho
  have hn := ho.nodup
  obtain ⟨oo, es, ep, hg, hc, hd, he, hi, hnn⟩ := id ho
  have hlt := Heap.lt_size hg
  have ho' : (s.heap.push { cls := .type "dict", data := .dict #[] }).DictOfH (nestedKind prog w) o xs :=
    ⟨oo, es, ep, Heap.get?_push_of_some _ hg, hc, hd, he, fun x hx => nestedKind_stays.stays (fun b u _ _ q _ => Heap.get?_push_of_some _ q) (hi x hx), hnn⟩
  refine ⟨hnew.typeIs, F.args_dict_init_2 _ _, ?_⟩
  unfold Builtin.«dict.__init__» Builtin.Dict.selfAndRest
  refine wpAny_bind (wpAny_bind (wpAny_notOrdered_dict hnew.typeIs ?_))
  show wpAny _ _ (pure (s.heap.objs.size, [Value.ref o])) _ _ _
  refine wpAny_pure ?_
  show wpAny _ _ (Builtin.Dict.updateFrom "dict.__init__" s.heap.objs.size (.ref o) [] .none) _ _ _
  refine wpAny_mono (updateFrom_dictH (R := fun r s' => r = .ok (.ret .none) ∧ Q (.ref s.heap.objs.size) s') .none hu (Nat.ne_of_gt hlt) hoS hnew ho' (.inr ⟨fun x hx => ?_, hap⟩) (by simpa using hsz) fun h' h1 h2 h3 => ⟨rfl, ?_⟩) (fun fin s' z => ?_) fun e s' z => ?_
  · obtain ⟨u, hu1, hu2⟩ := hty x hx
    exact ⟨u, Heap.get?_push_of_some _ hu1, hu2⟩
  · rw [storedAllH_nil_of_nodup xs hn] at h1
    exact h h' h1 h3
  · cases fin with
    | done f => obtain ⟨z1, z2⟩ := z; cases z1; exact ⟨rfl, z2⟩
    | again c => exact ⟨z.1, codeAny_mono z.2 fun r s1 q => by obtain ⟨q1, q2⟩ := q; cases q1; exact ⟨rfl, q2⟩⟩
  · obtain ⟨z1, z2⟩ := z
    cases z1
end
mutual
/-- a key's hash, where no text is in it -/
def nh : NestedKey → Option Int
  | .none => some (reduceHash 0xFCA86420)
  | .num i => some (hashInt i)
  | .text _ => none
  | .tup ks => match nhs ks with
    | some hs => some (reduceHash (Builtin.Tuple.tupleHashOf hs))
    | none => none
def nhs : List NestedKey → Option (List Int)
  | [] => some []
  | k :: ks => match nh k, nhs ks with
    | some h, some hs => some (h :: hs)
    | _, _ => none
end
mutual
theorem nh_eq (w : World) : ∀ {k : NestedKey} {h : Int}, nh k = some h → NestedKey.hash w k = h
  | .none, h, e => by rw [nh] at e; cases e; rw [NestedKey.hash]
  | .num i, h, e => by rw [nh] at e; cases e; rw [NestedKey.hash]
  | .text x, h, e => by rw [nh] at e; cases e
  | .tup ks, h, e => by
    rw [nh] at e
    split at e
    · rename_i hs hh
      cases e
      rw [NestedKey.hash, nhs_eq w hh]
    · cases e
theorem nhs_eq (w : World) : ∀ {k : List NestedKey} {h : List Int}, nhs k = some h → NestedKey.hashes w k = h
  | [], h, e => by rw [nhs] at e; cases e; rw [NestedKey.hashes]
  | k :: ks, h, e => by
    rw [nhs] at e
    split at e
    · rename_i a b h1 h2
      cases e
      rw [NestedKey.hashes, nh_eq w h1, nhs_eq w h2]
    · cases e
end
/-- the keys' hashes -/
def hashesK : List D → Option (List Int)
  | [] => some []
  | k :: ks => match keyOf k with
    | some q => match nh q, hashesK ks with
      | some h, some hs => some (h :: hs)
      | _, _ => none
    | none => none
def apartK (ks : List D) : Bool := match hashesK ks with
  | some hs => decide hs.Nodup
  | none => false
theorem hashes_at {P : Program} (w : World) : ∀ {xs : List EN} {ks : List D} {hs : List Int}, ks.map keyOf = xs.map (fun x => some x.1) → hashesK ks = some hs → xs.map (fun x => (nestedKind P w).hash x.1) = hs
  | [], ks, hs, ke, e => by
    cases ks with
    | nil => rw [hashesK] at e; cases e; rfl
    | cons k ks => cases ke
  | x :: xs, ks, hs, ke, e => by
    cases ks with
    | nil => cases ke
    | cons k ks =>
      rw [List.map_cons, List.map_cons, List.cons.injEq] at ke
      rw [hashesK, ke.1] at e
      simp only at e
      split at e
      · rename_i a b h1 h2
        cases e
        rw [List.map_cons, hashes_at w ke.2 h2]
        have z : (nestedKind P w).hash x.1 = a := nh_eq w h1
        rw [z]
      · cases e
def dictD : D → Res D
  | .dic ks vs => if apartK ks = true then .ok (.dic ks vs) else .bad
  | _ => .bad
section
variable {X : Cx} {k : Nat}
theorem call_dictN (hr : Room k X.A) : CallR X (.type "dict") (fun xs H Q => ∃ (F : Hp) (p : Addr) (o : Obj) (es : List EN) (ws : List V) (ks vs : List D), xs = [.ref p] ∧ Same F H ∧ H p = some (.ext (isObj' p o)) ∧ (p == sysModules) = false ∧ DicO (gOf X) o es ∧ DR (gOf X) F es ws ks vs ∧ apartK ks = true ∧
    ∀ a o', H a = none → (a == sysModules) = false → DicO (gOf X) o' es → Q (.ref a) (upd H a (.ext (isObj' a o')))) := by
  intro pins s σ H xs us Q I r h
  obtain ⟨F, p, o, es, ws, ks, vs, rfl, sF, hp, hn, dd, dr, ha, q⟩ := h
  obtain ⟨u, rfl, rx⟩ := vals1 r
  cases rx
  have hap : (es.map fun x => (nestedKind X.prog X.w).hash x.1).Nodup := by
    unfold apartK at ha
    split at ha
    · rename_i hs hh
      rw [hashes_at X.w dr.ke hh]
      exact of_decide_eq_true ha
    · cases ha
  have hu := hr.un
  refine dictCopyH (show X.A.units + 1 + 1 + 8 < cLine by omega) hn (dr_of I sF hp dd dr) dd.sz hap fun h' hm hs => ?_
  have nm : (s.heap.objs.size == sysModules) = false := beq_eq_false_iff_ne.mpr (Ne.symm (Nat.ne_of_lt I.big))
  obtain ⟨o', e1, e2⟩ := dicO_of hm dd.sz
  exact ⟨.ref s.heap.objs.size, _, I.laid (t' := s.toks) (fun b u e => (hs.2 b (Nat.ne_of_lt (Heap.lt_size e))).trans (Heap.get?_push_of_some _ e)) (Nat.le_refl _) (ext_ok e1), rfl, q _ o' (I.hok.fresh (Nat.le_refl _)) nm e2⟩
theorem boot_dict' : bootBuiltins "dict" = some (.type "dict") := by decide +kernel
theorem b_dict (hr : Room k X.A) (hm : X.mg "dict" = none) : BlM X "dict" (.O .flat) (one dictD) := BlM.t hm boot_dict' (call_dictN hr) (ne_one (fun d e z => by unfold dictD at z; split at z <;> (try split at z) <;> cases z)) (cal_one fun F H x a d Q s ra e q => by
  unfold dictD at e
  split at e
  · split at e <;> cases e
    rename_i ha
    obtain ⟨p, o, xs, ws, rfl, h1, h2, h3, h4⟩ := RdD.dr s (show RdD (gOf X) F H x _ from ra)
    exact ⟨F, p, o, xs, ws, _, _, rfl, s, h1, h2, h3, h4, ha, fun t o' ht hn dd => q _ _ _ (Grow.own s ht) ⟨[t], Own.dr upd_same (s.free ht) hn dd h4, fun a ha => by rw [List.mem_singleton.mp ha]; exact ht⟩⟩
  · cases e)
end
/-- the keys in their order -/
def Itdk (d : Addr) (o : Obj) (xs : List EN) : It := ⟨fun i H => H d = some (.ext (isObj' d o)) ∧ i < xs.length, fun i H x H' => H' = H ∧ ∃ e, xs[i]? = some e ∧ x = .ref e.2.1, fun i H => H d = some (.ext (isObj' d o)) ∧ xs.length ≤ i⟩
theorem ent_at {K : Type} [DecidableEq K] {P : Program} {w : World} {knd : HeapKind P w K} {es : Array DictEntry} {xs : List (K × Addr × Value)} (he : es.toList = xs.map (entryOfKey knd)) {i : Nat} (hi : i < es.size) : ∃ e, xs[i]? = some e ∧ es[i].key = .ref e.2.1 ∧ es[i].val = e.2.2 := by
  have h1 := entry_at he i
  rw [Array.getElem?_eq_getElem hi] at h1
  cases hx : xs[i]? with
  | none => rw [hx] at h1; cases h1
  | some e =>
    rw [hx] at h1
    have h2 : es[i] = entryOfKey knd e := Option.some.inj h1
    exact ⟨e, rfl, by rw [h2]; rfl, by rw [h2]; rfl⟩
section
variable {P : Program} {w : World} {K : PySem.W.Frag} {tg : Expr} {d : Addr} {o : Obj} {es : Array DictEntry} {ep : Nat} {xs : List EN} {ws : List V}
theorem ext_raw {X : Cx} {pins : List (Addr × Obj)} {σ : L2.St} {H : Hp} {s : Shared} (I : L2.Inv X pins σ H s) (h : H d = some (.ext (isObj' d o))) (hx : o.ExactDict) (hd : o.data = .dict es ep) : s.heap.DictRaw d es ep := by
  obtain ⟨e, _⟩ := (show ObjOk X.prog X.w H s.heap d (.ext (isObj' d o)) from I.hok d _ h)
  exact ⟨o, e, hx, hd⟩
theorem turn_dk (it : Addr) (hx : o.ExactDict) (hod : o.data = .dict es ep) (he : es.toList = xs.map (entryOfKey (nestedKind P w))) : Turn P w K tg (Itdk d o xs) [it] it (fun i h => h.IsKeyIter it d i es.size ep) where
  mem := by simp
  obj := fun i h st b hb => by
    have e : b = it := by simpa using hb
    subst e
    obtain ⟨oi, e, c, dd⟩ := st
    exact ⟨oi, e, fun v z => by rw [dd] at z; cases z⟩
  keep := fun i h h' st k => st.at fun oi e => k it (by simp) oi e
  item := by
    intro X hP hw hK hc i pins s σ H E I hf st ⟨hd, hi⟩
    subst hP hw hK
    obtain ⟨f0, f1, f2, f3, f4, f5⟩ := hf it (by simp)
    have hsz := size_of_entries he
    have hi' : i < es.size := by rw [hsz]; exact hi
    obtain ⟨e, e1, e2, _⟩ := ent_at he hi'
    refine wpAny_pyNext_keys_item_raw st (ext_raw I hd hx hod) hi' fun h' st' sb => ?_
    have I1 : Inv X pins σ H { s with heap := h' } := I.turned (t' := s.toks) (fun b ob hb q => (sb.2 b hb).trans q) f0 f1 f3 f4 f5
    obtain ⟨oi, q, c, dd⟩ := id st'
    exact ⟨es[i].key, rfl, go_of (s := { s with heap := h' }) q c dd (by decide) ⟨.ref e.2.1, H, I1, e2, ⟨rfl, e, e1, rfl⟩, st', fun b hb => (hf b hb).1⟩⟩
  done := by
    intro X hP hw hK hc i pins s σ H E I hf st ⟨hd, hi⟩
    subst hP hw hK
    obtain ⟨f0, f1, f2, f3, f4, f5⟩ := hf it (by simp)
    have hsz := size_of_entries he
    exact wpAny_pyNext_keys_end_raw (I.ok.hd hc) st (ext_raw I hd hx hod) (by rw [hsz]; exact hi) fun h' eb => ⟨rfl, I.turned (t' := s.toks) (fun b ob hb e => eb b ob hb e) f0 f1 f3 f4 f5⟩
  self := fun A i s Q E st h => wpAny_pyIter_keyiter st h
end
/-- the dict is there -/
def iDk (X : Cx) (J : Addr → Obj → List EN → List V → It) (td : TE) : TI := fun σ H R => td σ H fun x H1 => ∃ (F : Hp) (d : Addr) (o : Obj) (xs : List EN) (ws : List V) (ks vs : List D), x = .ref d ∧ Same F H1 ∧ H1 d = some (.ext (isObj' d o)) ∧ (d == sysModules) = false ∧ DicO (gOf X) o xs ∧ DR (gOf X) F xs ws ks vs ∧ R (J d o xs ws) H1
section
variable {X : Cx} {W : Wi} {tg e : Expr} {td : TE} {fe : Env → Res D} {apos cpos : Pos}
theorem pi_dk (he : PE X e td) : PI X tg e (iDk X (fun d o xs _ => Itdk d o xs) td) := by
  refine ⟨fun pins s σ H R I h => thn (he.run pins s σ H _ I h) fun u s1 ⟨x, H1, I1, rx, F', d, o, xs, ws, ks, vs, ex, sF, hd, hn, dd, dr, q⟩ => ?_⟩
  subst ex
  obtain rfl : u = Value.ref d := rx
  obtain ⟨es, ep, h1, h2⟩ := dd.dat
  refine wpAny_pyIter_dict_raw hn (ext_raw I1 hd dd.ex h1) (pi_one (tk := s1.toks) I1 _ (turn_dk _ dd.ex h1 h2) ⟨_, Heap.get?_push_size _ rfl, rfl, rfl⟩ q)
theorem WalkD.dk {G : GC} {F F1 B : Hp} {d : Addr} {o : Obj} {xs : List EN} {ws : List V} {ks vs : List D} (h : B d = some (.ext (isObj' d o))) (dr : DR G F xs ws ks vs) : WalkD G F B (Itdk d o xs) ks := ⟨fun i H hi s => ⟨s _ _ h, by rw [dr.len]; exact hi⟩, fun H s => ⟨s _ _ h, by rw [dr.len]; exact Nat.le_refl _⟩, fun i F2 H2 x H3 hi s1 s2 s3 y => by
  obtain ⟨rfl, e, he, rfl⟩ := y
  obtain ⟨kd, h1, h2⟩ := dr.kr.getV (i := i) (v := .ref e.2.1) (by rw [List.getElem?_map, he]; rfl)
  exact ⟨F2, kd, Grow.refl s2, h1, h2.mono s1⟩⟩
/-- the pairs of a table -/
def pairsK (ks vs : List D) : List D := (ks.zip vs).map fun p => .tup [p.1, p.2]
def itemsD (d : D) : Res (List D) := match d with
  | .dic ks _ => .ok ks
  | d => itemsS d
@[simp] theorem itemsD_lst (xs : List D) : itemsD (.lst xs) = .ok xs := rfl
@[simp] theorem itemsD_tup (xs : List D) : itemsD (.tup xs) = .ok xs := rfl
@[simp] theorem itemsD_scr (xs : List Int) : itemsD (.scr xs) = .ok (xs.map D.int) := rfl
@[simp] theorem itemsD_str (z : Str) : itemsD (.str z) = .ok (signsOf z) := rfl
@[simp] theorem itemsD_dic (ks vs : List D) : itemsD (.dic ks vs) = .ok ks := rfl
theorem re_iter (he : RE X W .S e fe) : RI X W true tg e (fun r => fe r >>= itemsD) := by
  refine ⟨fun pins s σ H R I ⟨H0, F0, fp, F, r, m, o⟩ => ?_⟩
  have o : Out (gOf X) W σ F H _ (fe r >>= itemsD) := o
  cases ef : fe r with
  | er x => exact (re_iterS he).run pins s σ H R I ⟨H0, F0, fp, F, r, m, by show Out _ _ _ _ _ _ (fe r >>= itemsS); rw [ef] at o ⊢; exact o⟩
  | bad => rw [ef] at o; exact o.elim
  | ok d =>
    rw [ef] at o
    have o0 : itemsD d = itemsS d → Out (gOf X) W σ F H _ (fe r >>= itemsS) := fun z => by
      rw [ef]
      have o1 : Out (gOf X) W σ F H _ (itemsD d) := o
      rw [z] at o1
      exact o1
    cases d with
    | dic ks vs => exact (pi_dk he).run pins s σ H R I ⟨H0, F0, fp, F, r, m, by
        rw [ef]
        intro F' H' gr v kv
        have kv' : Rep (gOf X) F' v (.dic ks vs) := kv
        cases kv' with
        | dic h1 z1 z2 z3 z4 z5 z6 => exact ⟨F', _, _, _, _, ks, vs, rfl, gr.sub, gr.sub _ _ h1, z1, z2, ⟨z3, z4, z5, z6⟩, o F' H' gr _ (WalkD.dk (F1 := F') h1 ⟨z3, z4, z5, z6⟩)⟩⟩
    | _ => exact (re_iterS he).run pins s σ H R I ⟨H0, F0, fp, F, r, m, o0 rfl⟩
def valsD (d : D) : Res (List D) := match d with
  | .dic _ vs => .ok vs
  | _ => .bad
def pairsD (d : D) : Res (List D) := match d with
  | .dic ks vs => .ok (pairsK ks vs)
  | _ => .bad
@[simp] theorem valsD_dic (ks vs : List D) : valsD (.dic ks vs) = .ok vs := rfl
@[simp] theorem pairsD_dic (ks vs : List D) : pairsD (.dic ks vs) = .ok (pairsK ks vs) := rfl
end
end Mir
namespace Mir
open PySem PySem.Spec PyProof.Rows L2
variable [Tn]
def parG (i j : Nat) (ds : List D) (r : Env) : Oc := match ds with
  | [d, e] => .nx ((r.set i (.sh d)).set j (.sh e))
  | _ => .bad
section
variable {X : Cx} {W : Wi} {k : Kd} {m : Nat}
theorem rs_par (i j : Nat) {x y : Str} {a b : Expr} {px py pt : Pos} {kt k2 : Nat} {pt2 pos : Pos} {fa : Env → Res (List D)} (hc : X.calm = true) (hN : X.N.Nodup) (ha : RA X W [a, b] fa) (hJ1 : ∀ σ v, W.J σ → W.J (σ.set i v) := by first | exact fun _ _ h => h | exact jset (by decide) | exact jfn (by decide))
    (hJ2 : ∀ σ v, W.J σ → W.J (σ.set j v) := by first | exact fun _ _ h => h | exact jset (by decide) | exact jfn (by decide)) (hi : X.N[i]? = some x := by rfl) (hj : X.N[j]? = some y := by rfl) (hij : i ≠ j := by decide) (hx : X.env.scope.names.lookup x = some .local := by rfl) (hy : X.env.scope.names.lookup y = some .local := by rfl)
    (hw : swappedStores [.Tuple [.Name x px, .Name y py] kt pt] (.Tuple [a, b] k2 pt2) X.env = pure (some [x, y]) := by first | rfl | with_unfolding_all rfl)
    (hs : swapsWithSole [.Tuple [.Name x px, .Name y py] kt pt] (.Tuple [a, b] k2 pt2) pos.line X.env = pure false := by rfl) : RS X W k (.Assign [.Tuple [.Name x px, .Name y py] kt pt] (.Tuple [a, b] k2 pt2) pos) (fun r => lift (fa r) r fun ds => parG i j ds r) :=
  (ps_par hc hN hi hj hij hx hy ha hw hs).imp fun D σ H ⟨H0, F0, fp, F, r, m, o⟩ => ⟨H0, F0, fp, F, r, m, OutS.lift m o fun F' H' ds gr o' vs rv => by
    cases rv with
    | nil => exact o'.elim
    | cons r1 t =>
      cases t with
      | nil => exact o'.elim
      | cons r2 t =>
        cases t with
        | nil => exact ⟨_, _, rfl, o' fp F' _ H' (Same.refl _) (((m.grow gr).setS i r1 hJ1).setS j r2 hJ2)⟩
        | cons _ _ => exact o'.elim⟩
/-- a < b < c as a value -/
theorem re_chain {o1 o2 : CmpOp} {p1 p2 : D → D → Res D} {a b c : Expr} {pos : Pos} {fa fb fc : Env → Res D} (C1 : Cmp X o1 p1) (C2 : Cmp X o2 p2) (ha : RE X W .R a fa) (hb : RE X W .R b fb) (hc : RE X W .R c fc) (hm : lastMarks [o1, o2] [b, c] = false := by with_unfolding_all rfl) :
    RE X W .S (.Compare a [o1, o2] [b, c] pos) (fun r => fa r >>= fun x => fb r >>= fun y => (p1 x y >>= asB) >>= fun t => if t = true then fc r >>= fun z => p2 y z else .ok (.bl false)) := by
  obtain ⟨rr1, h1, k1⟩ := C1.ex
  obtain ⟨rr2, h2, k2⟩ := C2.ex
  refine (pe_chain h1 h2 ha hb hc hm).imp fun σ H Q ⟨H0, F0, fp, F, r, m, o⟩ => ⟨H0, F0, fp, F, r, m, o.bind fun F1 H1 d1 g1 o1 v1 kv1 => ⟨H0, F0, fp, F1, r, m.grow g1, o1.bind fun F2 H2 d2 g2 o2 v2 kv2 => ?_⟩⟩
  cases e1 : p1 d1 d2 with
  | er x => exact (C1.ne _ _ _ e1).elim
  | bad => rw [e1] at o2; exact o2.elim
  | ok w =>
    rw [e1] at o2
    refine k1 F2 H2 v1 v2 d1 d2 w _ H H g2.sub (RdD.grow kv1 g2) kv2 e1 fun v' F' H' g3 kr => ?_
    have o3 := Out.grow o2 g3
    cases w with
    | bl t =>
      have kr' : Rep (gOf X) F' v' (.bl t) := kr
      cases kr'
      refine ⟨t, rfl, ?_⟩
      cases t with
      | false => exact o3 F' H' (Grow.refl g3.sub) _ (Rep.bl false)
      | true =>
        have m3 := ((m.grow g1).grow g2).grow g3
        have o5 : Out (gOf X) W σ F' H' _ (fc r >>= fun z => p2 d2 z) := o3
        refine ⟨H0, F0, fp, F', r, m3, o5.bind fun F5 H5 d5 g5 o6 v5 kv5 => ?_⟩
        cases e2 : p2 d2 d5 with
        | er x => exact (C2.ne _ _ _ e2).elim
        | bad => rw [e2] at o6; exact o6.elim
        | ok w2 =>
          rw [e2] at o6
          exact k2 F5 H5 v2 v5 d2 d5 w2 _ H H g5.sub (RdD.grow (RdD.grow kv2 g3) g5) kv5 e2 fun v6 F6 H6 g6 kr6 => o6 F6 H6 g6 v6 (Kd.Rep.later (k := .S) (g1.h.trans (g2.h.trans (g3.h.trans (g5.h)))).fre kr6)
    | _ => exact o3.elim
end
section
variable {G : GC} {F H : Hp}
theorem OwnAll.setAt {f : Nat → Shape} {d' : D} : ∀ {n0 : Nat} {ws : List V} {vs : List D} {A : List Addr}, OwnAll G F H f n0 ws vs A → ∀ (n : Nat) {d : D}, vs[n]? = some d → ∃ w B, ws[n]? = some w ∧ Own G F H (f (n0 + n)) w d B ∧ (∀ b ∈ B, b ∈ A) ∧
      ∀ a o, a ∈ B → Own G F (upd H a o) (f (n0 + n)) w d' B → OwnAll G F (upd H a o) f n0 ws (vs.set n d') A
  | _, _, _, _, .nil, n, d, h => by simp at h
  | n0, _, _, _, .cons (A := A) (B := B) r t x, 0, d, h => by
    simp at h
    subst h
    exact ⟨_, A, rfl, r, fun b hb => List.mem_append_left _ hb, fun a o ha r' => .cons r' (t.keep (Keep.upd (x a ha))) x⟩
  | n0, _, _, _, .cons (A := A) (B := B) r t x, n + 1, d, h => by
    obtain ⟨w, C, h1, h2, h3, h4⟩ := OwnAll.setAt t n (d := d) (by simpa using h)
    rw [show n0 + 1 + n = n0 + (n + 1) by omega] at h2 h4
    refine ⟨w, C, by simpa using h1, h2, fun b hb => List.mem_append_right _ (h3 b hb), fun a o ha r' => ?_⟩
    rw [List.set_cons_succ]
    exact .cons (r.keep (Keep.upd fun z => x a z (h3 a ha))) (h4 a o ha r') x
end
def Shape.isFlat : Shape → Bool
  | .flat => true
  | _ => false
theorem Shape.flat_of {s : Shape} (h : s.isFlat = true) : s = .flat := by cases s <;> first | rfl | cases h
def setFI (i c n : Nat) (fv fi : Env → Res D) (r : Env) : Oc := lift (fv r) r fun v => match r[i]? with
  | some (.ow s (.obj c' vs)) => if c' = c ∧ (s.kid n).isFlat = true then (match vs[n]? with
    | some (.dic ks us) => lift (fi r) r fun kx => match keyT kx with
      | some q => if ks.length < lim then .nx (r.set i (.ow s (.obj c (vs.set n (.dic (setK ks us kx q v).1 (setK ks us kx q v).2))))) else .bad
      | none => .bad
    | _ => .bad) else .bad
  | _ => .bad
section
variable {X : Cx} {W : Wi} {k : Nat} {kk : Kd} {e iv : Expr} {fe fi : Env → Res D} {pos ps p2 p3 : Pos} {x f : Str}
theorem rs_fldItem (i c n : Nat) (M : ClM X.K (gOf X).ca f c) (hr : Room k X.A) (he : RE X W .S e fe) (hi : RE X W .R iv fi) (hn : (cflds c)[n]? = some f := by rfl) (hN : X.N[i]? = some x := by rfl) (hv : Vis X.env.scope x := by first | exact Or.inl rfl | exact Or.inr (Or.inl rfl) | exact Or.inr (Or.inr rfl)) (hd : (x == ("__debug__" : Str)) = false := by decide)
    (hcd : (x == ("__classdict__" : Str)) = false := by decide) (hb : attributeBase (.Name x ps) f X.env (eval (.Name x ps) X.env) = eval (.Name x ps) X.env := by rfl) (ha : ∀ v, assign (.Subscript (.Attribute (.Name x ps) f p3) iv p2) X.env v = (do
      let ov ← holding [v] (eval (.Attribute (.Name x ps) f p3) X.env)
      let iv ← holding [v, ov] (eval iv X.env)
      standAt p2
      holding [v, ov, iv] (setItem ov iv v)
      release [v, ov, iv] []) := by intro _; rfl)
    (hs : swapsWithSole [.Subscript (.Attribute (.Name x ps) f p3) iv p2] e pos.line X.env = pure false := by rfl) (hw : swappedStores [.Subscript (.Attribute (.Name x ps) f p3) iv p2] e X.env = pure none := by rfl) (h1 : (assignEach [.Subscript (.Attribute (.Name x ps) f p3) iv p2] X.env).map (·.2) = [assign (.Subscript (.Attribute (.Name x ps) f p3) iv p2) X.env] := by rfl) :
    RS X W kk (.Assign [.Subscript (.Attribute (.Name x ps) f p3) iv p2] e pos) (setFI i c n fe fi) :=
  (ps_asg he (pg_sub (pe_fld (pe_var hN hv hd hcd) hb) hi (set_dic hr) ha) hs hw h1).imp fun D σ H ⟨H0, F0, fp, F, r, m, o⟩ => ⟨H0, F0, fp, F, r, m, OutS.lift m o fun F' H' d gr o' v kv => by
    split at o'
    · rename_i s c' vs hi
      split at o'
      · rename_i hc
        obtain ⟨rfl, hfl⟩ := hc
        have hfl := Shape.flat_of hfl
        split at o'
        · rename_i ks us hvs
          have m' := m.grow gr
          obtain ⟨⟨w, hw, ow⟩, hA⟩ := m'.ow i _ _ hi
          have hfp : fp i = fp i := rfl
          generalize hAA : fp i = A at ow hA
          cases ow with
          | sh _ => cases hfl
          | @obj _ a dx _ ws _ A' so ha fa hz oa na =>
            obtain ⟨w2, B, b1, b2, b3, b4⟩ := oa.setAt (d' := .dic [] []) n hvs
            rw [Nat.zero_add, hfl] at b2
            cases b2 with
            | @dic _ p ob xs wz _ _ _ h0 e2 f2 z1 z2 z3 z4 z5 ra nb =>
              obtain ⟨rfl, rr⟩ := ra.to_rep
              refine ⟨.ref a, hw, a, (gOf X).ca c', dx, _, .ref p, rfl, ha, M.cl, M.no, lookup_zip M.nd hn b1, H0, F0, fp, F', r, m', OutS.lift m' o' fun F2 H2 n2 g2 o2 u ku => ?_⟩
              split at o2
              · rename_i q hq
                split at o2
                · rename_i hl
                  obtain ⟨b, rfl, rb⟩ := key_ref (show RdD (gOf X) F2 H2 u _ from ku) hq
                  have dr : DR (gOf X) F2 xs wz ks us := (DR.mk z3 z4 z5 rr).mono g2.f
                  refine ⟨F2, p, b, ob, xs, wz, ks, us, n2, q, rfl, rfl, g2.sub, g2.h.at _ _ e2, z1, z2, dr, rb, hq, by rw [dr.len]; exact Nat.le_of_lt hl, fun p' b' ob' uu ep eb ru dd' => ?_⟩
                  cases ep
                  cases eb
                  obtain ⟨wz', dr'⟩ := dr.set ru rb (keyT_some hq).2.1 (Mir.Rep.mono g2.f kv)
                  have m2 := m'.grow g2
                  obtain ⟨⟨w', hw', ow'⟩, _⟩ := m2.ow i _ _ hi
                  rw [hw] at hw'
                  cases hw'
                  rw [hAA] at ow'
                  have oa2 : OwnAll (gOf X) F2 H2 s.kid 0 ws vs A' := oa.keep (g2.keep (fun y hy => (oa.there y hy).2) oa.nt)
                  obtain ⟨w3, B3, c1, c2, c3, c4⟩ := oa2.setAt (d' := .dic (setK ks us n2 q d).1 (setK ks us n2 q d).2) n hvs
                  rw [b1] at c1
                  cases c1
                  rw [Nat.zero_add, hfl] at c2 c4
                  have fp0 : F2 p = none := by
                    cases c2 with
                    | dic _ _ y _ _ _ _ _ _ _ => exact y
                  have eB : B3 = [p] := by
                    cases c2 with
                    | dic _ _ _ _ _ _ _ _ rb2 _ => obtain ⟨rfl, _⟩ := rb2.to_rep; rfl
                  subst eB
                  have oo := c4 p (.ext (isObj' p ob')) (by simp) (Own.dr upd_same fp0 z1 dd' dr')
                  have pA : p ∈ A' := c3 p (by simp)
                  have hap : a ≠ p := fun z => na (z ▸ pA)
                  obtain ⟨fp', m3⟩ := m2.write hi hw (by rw [hAA]; exact List.mem_cons_of_mem _ pA) (Own.obj (dx := dx) so (by rw [upd_ne hap]; exact g2.h.at _ _ ha) (by
                    cases zz : F2 a with
                    | none => rfl
                    | some u2 =>
                      rcases g2.new a u2 zz with y | y
                      · rw [fa] at y; cases y
                      · rw [ha] at y; cases y) hz oo na) fun y hy => .inl (by rw [hAA]; exact hy)
                  exact o2 fp' F2 σ _ (Same.refl _) m3
                · exact o2.elim
              · exact o2.elim
        · exact o'.elim
      · exact o'.elim
    · exact o'.elim⟩
end
end Mir
namespace Mir
open PySem PySem.Spec PyProof.Rows L2
variable [Tn]
theorem okQ_dic {n : Nat} {ks vs : List D} : okQ n (.dic ks vs) = false := by cases n <;> rfl
theorem eqD_S {a b : D} (h : ∀ ks vs, a ≠ .dic ks vs) : eqD a b = eqS a b := by
  unfold eqD
  split
  · exact absurd rfl (h _ _)
  · rfl
theorem neD_S {a b : D} (h : ∀ ks vs, a ≠ .dic ks vs) : neD a b = neS a b := by
  unfold neD
  split
  · exact absurd rfl (h _ _)
  · rfl
theorem eqD_ok {a b : D} (ha : okQ 64 a = true) (hb : okQ 64 b = true) : eqD a b = .ok (.bl (eqQ a b)) := by
  rw [eqD_S (fun ks vs e => by subst e; rw [okQ_dic] at ha; cases ha)]
  exact eqS_ok ha hb
theorem neD_ok {a b : D} (ha : okQ 64 a = true) (hb : okQ 64 b = true) : neD a b = .ok (.bl (!eqQ a b)) := by
  rw [neD_S (fun ks vs e => by subst e; rw [okQ_dic] at ha; cases ha)]
  exact neS_ok ha hb
@[simp] theorem eqD_int (i j : Int) : eqD (.int i) (.int j) = .ok (.bl (decide (i = j))) := eqS_int i j
@[simp] theorem neD_int (i j : Int) : neD (.int i) (.int j) = .ok (.bl (!decide (i = j))) := neS_int i j
theorem neD_tI (xs ys : List Int) : neD (tuI xs) (tuI ys) = .ok (.bl (!decide (xs = ys))) := by
  rw [neD_ok (by simp) (by simp), eqQ, eqQs_ints]
@[simp] theorem ixD_lst (xs : List D) (i : Int) : ixD (.lst xs) (.int i) = match atI xs i with
    | some d => .ok d
    | none => .bad := rfl
@[simp] theorem ixD_tup (xs : List D) (i : Int) : ixD (.tup xs) (.int i) = match atI xs i with
    | some d => .ok d
    | none => .bad := rfl
@[simp] theorem ixD_scr (ns : List Int) (i : Int) : ixD (.scr ns) (.int i) = match atI ns i with
    | some n => .ok (.int n)
    | none => .bad := rfl
theorem atI_nat {α : Type} (xs : List α) (i : Nat) (h : i < xs.length) : atI xs (i : Int) = xs[i]? := by
  unfold atI ixN
  rw [if_pos (Int.natCast_nonneg i), if_pos (by omega)]
  rfl
theorem atI_int {α : Type} (xs : List α) (i : Int) (h0 : 0 ≤ i) (h : i < xs.length) : atI xs i = xs[i.toNat]? := by
  have e : i = ((i.toNat : Nat) : Int) := by omega
  rw [e, atI_nat xs i.toNat (by omega)]
  rfl
theorem ixD_tI {xs : List Int} {i : Nat} (h : i < xs.length) : ixD (tuI xs) (.int (i : Nat)) = .ok (.int (xs.getD i 0)) := by
  have e : xs[i]? = some (xs.getD i 0) := by rw [List.getD_eq_getElem?_getD, List.getElem?_eq_getElem h]; rfl
  rw [ixD_tup, atI_nat _ _ (by simpa using h), List.getElem?_map, e]
  rfl
theorem ixD_last (f : List Int) (a : Int) : ixD (.lst (f.map D.int ++ [.int a])) (.int (-1)) = .ok (.int a) := by
  have z : atI (f.map D.int ++ [D.int a]) (-1) = some (.int a) := by
    unfold atI ixN
    have hl : (f.map D.int ++ [D.int a]).length = f.length + 1 := by simp
    rw [hl, if_neg (by omega), if_pos (by omega)]
    show (f.map D.int ++ [D.int a])[((-1 : Int) + ((f.length + 1 : Nat) : Int)).toNat]? = _
    have e : ((-1 : Int) + ((f.length + 1 : Nat) : Int)).toNat = f.length := by omega
    rw [e, List.getElem?_append_right (by simp)]
    simp
  rw [ixD_lst, z]
theorem atI_getD {ns : List Int} {i : Int} (h0 : 0 ≤ i) (h1 : i < ns.length) : atI ns i = some (ns.getD i.toNat 0) := by
  rw [atI_int ns i h0 h1, List.getD_eq_getElem?_getD, List.getElem?_eq_getElem (by omega)]
  rfl
/-- one of a row of data by a rest -/
theorem ixD_pick {xs : List D} (c : Int) (n : Int) (hn : n = xs.length) (h0 : 0 < n) : ∃ d, d ∈ xs ∧ ixD (.lst xs) (.int (c % n)) = .ok d := by
  have h1 := Int.emod_nonneg c (b := n) (by omega)
  have h2 := Int.emod_lt_of_pos c (b := n) h0
  have hl : (c % n).toNat < xs.length := by omega
  refine ⟨xs[(c % n).toNat], List.getElem_mem hl, ?_⟩
  rw [ixD_lst, atI_int xs _ h1 (by omega), List.getElem?_eq_getElem hl]
@[simp] theorem bits0 : bits 0 = 0 := rfl
theorem bits_lt {i : Int} {n : Nat} (hn : 0 < n) (h : i.natAbs < 2 ^ n) : bits i < n := by
  unfold bits
  by_cases h0 : i.natAbs = 0
  · rw [h0]; simpa using hn
  · exact (Nat.log2_lt h0).mpr h
theorem lcD_gmap {α : Type} {g : D → Env → Res Env} {t : Env → Res Bool} {f : Env → Res D} {r : Env} (A : α → D) (F : α → D) : ∀ {xs : List α}, (∀ a ∈ xs, ∃ r1, g (A a) r = .ok r1 ∧ t r1 = .ok true ∧ f r1 = .ok (F a)) → lcD g t f r (xs.map A) = .ok (xs.map F)
  | [], _ => rfl
  | a :: xs, h => by
    obtain ⟨r1, h1, h2, h3⟩ := h a List.mem_cons_self
    rw [List.map_cons, lcD, h1]
    simp only [nE_ok, ok_bind, h2, if_true, h3, lcD_gmap A F fun d hd => h d (List.mem_cons_of_mem _ hd)]
    rfl
/-- one name, over anything -/
theorem lcD_one {α : Type} {t : Env → Res Bool} {f : Env → Res D} {r : Env} {i : Nat} (A : α → D) (F : α → D) {xs : List α} (h : ∀ a ∈ xs, t (r.set i (.sh (A a))) = .ok true ∧ f (r.set i (.sh (A a))) = .ok (F a)) : lcD (nameG i) t f r (xs.map A) = .ok (xs.map F) :=
  lcD_gmap A F fun a ha => ⟨_, rfl, h a ha⟩
theorem rangeL_nat (n : Nat) : rangeL 0 n = (List.range n).map fun i : Nat => D.int i := by
  unfold rangeL
  exact List.map_congr_left fun i _ => by rw [Int.zero_add]
theorem lcD_range {t : Env → Res Bool} {f : Env → Res D} {r : Env} {i : Nat} (F : Nat → D) {n : Nat} (h : ∀ k, k < n → t (r.set i (.sh (.int (k : Nat)))) = .ok true ∧ f (r.set i (.sh (.int (k : Nat)))) = .ok (F k)) : lcD (nameG i) t f r (rangeL 0 n) = .ok ((List.range n).map F) := by
  rw [rangeL_nat]
  exact lcD_one (fun k : Nat => D.int k) F fun k hk => h k (List.mem_range.mp hk)
theorem trsD_bls : ∀ bs : List Bool, trsD (bs.map D.bl) = some bs
  | [] => rfl
  | b :: bs => by rw [List.map_cons, trsD, trsD_bls bs]; rfl
theorem allT_bls (bs : List Bool) : allT (.lst (bs.map D.bl)) = .ok (.bl (bs.all id)) := by
  unfold allT
  simp only [trsD_bls]
/-- a walk that gives up at the first of its kind -/
theorem forD_any {f : D → Env → Oc} (P : Env → Prop) (b : D → Bool) (v : D) : ∀ {ds : List D} {r : Env}, (∀ d ∈ ds, ∀ r, P r → if b d = true then f d r = .rt v else ∃ r', f d r = .nx r' ∧ P r') → P r → if ds.any b = true then forD f ds r = .rt v else ∃ r', forD f ds r = .nx r' ∧ P r'
  | [], r, _, hp => by simpa using hp
  | d :: ds, r, h, hp => by
    have h1 := h d List.mem_cons_self r hp
    rw [List.any_cons]
    cases hb : b d with
    | true =>
      rw [hb, if_pos rfl] at h1
      rw [Bool.true_or, if_pos rfl, forD_cons, h1]
    | false =>
      rw [hb, if_neg (by simp)] at h1
      obtain ⟨r1, e, p1⟩ := h1
      rw [Bool.false_or, forD_cons, e]
      exact forD_any P b v (fun x hx => h x (List.mem_cons_of_mem _ hx)) p1
@[simp] theorem atI0 {α : Type} (a : α) (xs : List α) : atI (a :: xs) 0 = some a := by
  rw [show (0 : Int) = ((0 : Nat) : Int) from rfl, atI_nat _ _ (by simp)]
  rfl
@[simp] theorem atI1 {α : Type} (a b : α) (xs : List α) : atI (a :: b :: xs) 1 = some b := by
  rw [show (1 : Int) = ((1 : Nat) : Int) from rfl, atI_nat _ _ (by simp)]
  rfl
@[simp] theorem atI2 {α : Type} (a b c : α) (xs : List α) : atI (a :: b :: c :: xs) 2 = some c := by
  rw [show (2 : Int) = ((2 : Nat) : Int) from rfl, atI_nat _ _ (by simp)]
  rfl
@[simp] theorem addD_tup (xs ys : List D) : addD (.tup xs) (.tup ys) = if xs.length + ys.length ≤ lim then .ok (.tup (xs ++ ys)) else .bad := rfl
@[simp] theorem addD_lst (xs ys : List D) : addD (.lst xs) (.lst ys) = if xs.length + ys.length ≤ lim then .ok (.lst (xs ++ ys)) else .bad := rfl
@[simp] theorem sliceD_tup (xs : List D) (lo hi : Option Int) : sliceD (.tup xs) lo hi = .ok (.tup (cutD xs lo hi)) := rfl
@[simp] theorem sliceD_lst (xs : List D) (lo hi : Option Int) : sliceD (.lst xs) lo hi = .ok (.lst (cutD xs lo hi)) := rfl
/-- names that one owns are shared ahead of a statement -/
def frzAt (i : Nat) (g : Env → Oc) (r : Env) : Oc := g (freeze i r)
@[simp] theorem frzAt_eq (i : Nat) (g : Env → Oc) (r : Env) : frzAt i g r = g (freeze i r) := rfl
theorem rs_frz (i : Nat) {X : Cx} {W : Wi} {k : Kd} {s : Stmt} {g : Env → Oc} (h : RS X W k s g) : RS X W k s (fun r => frzAt i g r) := rs_freeze i h
end Mir
namespace Mir
open PySem PySem.Spec PyProof.Rows L2
variable [Tn]
def kI (x : List Int) : NestedKey := .tup (x.map .num)
theorem keysOf_ints : ∀ x : List Int, keyOf.keysOf (x.map D.int) = some (x.map .num)
  | [] => by simp [keyOf.keysOf]
  | i :: x => by rw [List.map_cons, keyOf.keysOf, keysOf_ints x]; simp [keyOf]
theorem keyOf_tuI (x : List Int) : keyOf (tuI x) = some (kI x) := by
  show (keyOf.keysOf (x.map D.int)).map NestedKey.tup = _
  rw [keysOf_ints]
  rfl
theorem depth_nums : ∀ x : List Int, NestedKey.depthAll (x.map NestedKey.num) = 0
  | [] => by simp [NestedKey.depthAll]
  | i :: x => by rw [List.map_cons, NestedKey.depthAll, depth_nums x]; simp [NestedKey.depth]
theorem depth_kI (x : List Int) : (kI x).depth = 1 := by
  unfold kI
  rw [NestedKey.depth, depth_nums]
theorem kI_inj {x y : List Int} (h : kI x = kI y) : x = y := by
  unfold kI at h
  injection h with h
  have z : ∀ x y : List Int, x.map NestedKey.num = y.map NestedKey.num → x = y := fun x => by
    induction x with
    | nil => intro y h; cases y with
      | nil => rfl
      | cons a b => cases h
    | cons a x ih =>
      intro y h
      cases y with
      | nil => cases h
      | cons b y =>
        rw [List.map_cons, List.map_cons] at h
        injection h with h1 h2
        injection h1 with h1
        rw [h1, ih y h2]
  exact z x y h
/-- data as keys -/
structure KeyE {α : Type} (E : α → D) (Q : α → NestedKey) : Prop where
  t : ∀ a, keyT (E a) = some (Q a)
  inj : ∀ a b, Q a = Q b → a = b
theorem KeyE.of {α : Type} {E : α → D} {Q : α → NestedKey} (K : KeyE E Q) (a : α) : keyOf (E a) = some (Q a) := (keyT_some (K.t a)).2.1
theorem keyE : KeyE tuI kI := ⟨fun x => by
  unfold keyT
  simp only [keyOf_tuI, depth_kI]
  rfl, fun _ _ => kI_inj⟩
abbrev pkD (p : List Int × List Int) : D := .tup [tuI p.1, tuI p.2]
def kP (p : List Int × List Int) : NestedKey := .tup [kI p.1, kI p.2]
theorem keyP : KeyE pkD kP := ⟨fun p => by
  have e : keyOf (pkD p) = some (kP p) := by
    show (keyOf.keysOf [tuI p.1, tuI p.2]).map NestedKey.tup = _
    rw [keyOf.keysOf, keyOf_tuI, keyOf.keysOf, keyOf_tuI, keyOf.keysOf]
    rfl
  have d : (kP p).depth = 2 := by
    unfold kP
    rw [NestedKey.depth, NestedKey.depthAll, NestedKey.depthAll, NestedKey.depthAll, depth_kI, depth_kI]
    rfl
  unfold keyT
  simp only [e, d]
  rfl, fun p q h => by
  unfold kP at h
  injection h with h
  injection h with h1 h
  injection h with h2 _
  exact Prod.ext (kI_inj h1) (kI_inj h2)⟩
section
variable {α β : Type} [DecidableEq α]
def lookA (l : List (α × β)) (a : α) : Option β := (l.find? fun p => decide (p.1 = a)).map (·.2)
def hasA (l : List (α × β)) (a : α) : Bool := l.any fun p => decide (p.1 = a)
def setA (l : List (α × β)) (a : α) (b : β) : List (α × β) := if hasA l a = true then l.map (fun p => if p.1 = a then (p.1, b) else p) else l ++ [(a, b)]
def dicA (E : α → D) (V : β → D) (l : List (α × β)) : D := .dic (l.map fun p => E p.1) (l.map fun p => V p.2)
variable {E : α → D} {V : β → D} {Q : α → NestedKey}
theorem getK_A (K : KeyE E Q) (a : α) : ∀ l : List (α × β), getK (l.map fun p => E p.1) (l.map fun p => V p.2) (Q a) = (lookA l a).map V
  | [] => by simp [getK, lookA]
  | p :: l => by
    rw [List.map_cons, List.map_cons, getK, K.of]
    unfold lookA
    rw [List.find?_cons]
    by_cases h : p.1 = a
    · rw [if_pos (by rw [h]), decide_eq_true h]
      rfl
    · rw [if_neg (fun z => h (K.inj _ _ (Option.some.inj z))), decide_eq_false h, getK_A K a l]
      rfl
theorem hasK_A (K : KeyE E Q) (a : α) (l : List (α × β)) : hasK (l.map fun p => E p.1) (Q a) = hasA l a := by
  unfold hasK hasA
  rw [List.any_map]
  congr 1
  funext p
  simp only [Function.comp, K.of]
  by_cases h : p.1 = a
  · rw [decide_eq_true h, decide_eq_true (by rw [h])]
  · rw [decide_eq_false h, decide_eq_false (fun z => h (K.inj _ _ (Option.some.inj z)))]
theorem repK_A (K : KeyE E Q) (a : α) (b : β) : ∀ l : List (α × β), repK (l.map fun p => E p.1) (l.map fun p => V p.2) (Q a) (V b) = (l.map fun p => if p.1 = a then (p.1, b) else p).map fun p => V p.2
  | [] => by simp [repK]
  | p :: l => by
    rw [List.map_cons, List.map_cons, repK, K.of, repK_A K a b l, List.map_cons, List.map_cons]
    congr 1
    by_cases h : p.1 = a
    · rw [if_pos (by rw [h]), if_pos h]
    · rw [if_neg (fun z => h (K.inj _ _ (Option.some.inj z))), if_neg h]
theorem setK_A (K : KeyE E Q) (a : α) (b : β) (l : List (α × β)) : setK (l.map fun p => E p.1) (l.map fun p => V p.2) (E a) (Q a) (V b) = ((setA l a b).map fun p => E p.1, (setA l a b).map fun p => V p.2) := by
  unfold setK setA
  rw [hasK_A K]
  by_cases h : hasA l a = true
  · rw [if_pos h, if_pos h, repK_A K]
    have e : (l.map fun p => E p.1) = (l.map fun p => if p.1 = a then (p.1, b) else p).map fun p => E p.1 := by
      rw [List.map_map]
      refine List.map_congr_left fun p _ => ?_
      show E p.1 = E (if p.1 = a then (p.1, b) else p).1
      split <;> rfl
    rw [← e]
  · rw [if_neg h, if_neg h, List.map_append, List.map_append]
    rfl
theorem ixD_A (K : KeyE E Q) (l : List (α × β)) (a : α) {b : β} (h : lookA l a = some b) : ixD (dicA E V l) (E a) = .ok (V b) := by
  unfold ixD dicA
  simp only [K.t, getK_A K, h]
  rfl
theorem notInD_A (K : KeyE E Q) (l : List (α × β)) (a : α) : notInD (E a) (dicA E V l) = .ok (.bl (!hasA l a)) := by
  unfold notInD dicA
  simp only [K.t, hasK_A K]
theorem setD_A (K : KeyE E Q) (l : List (α × β)) (a : α) (b : β) (hl : l.length < lim) : setD (dicA E V l) (E a) (V b) = .ok (dicA E V (setA l a b)) := by
  unfold setD dicA
  simp only [K.t, List.length_map, hl, if_true, setK_A K]
theorem setK_A' (K : KeyE E Q) (l : List (α × β)) (a : α) (b : β) : D.dic (setK (l.map fun p => E p.1) (l.map fun p => V p.2) (E a) (Q a) (V b)).1 (setK (l.map fun p => E p.1) (l.map fun p => V p.2) (E a) (Q a) (V b)).2 = dicA E V (setA l a b) := by
  rw [setK_A K]
  rfl
@[simp] theorem lenD_A (l : List (α × β)) : lenD (dicA E V l) = .ok (.int l.length) := by
  show Res.ok (D.int ((l.map fun p => E p.1).length : Nat)) = _
  rw [List.length_map]
@[simp] theorem itemsD_A (l : List (α × β)) : itemsD (dicA E V l) = .ok (l.map fun p => E p.1) := rfl
theorem setA_new {l : List (α × β)} {a : α} (b : β) (h : a ∉ l.map (·.1)) : setA l a b = l ++ [(a, b)] := by
  unfold setA
  rw [if_neg]
  unfold hasA
  rw [List.any_eq_true]
  rintro ⟨p, hp, e⟩
  exact h (List.mem_map.mpr ⟨p, hp, of_decide_eq_true e⟩)
theorem lookA_mem {l : List (α × β)} {a : α} {b : β} (hn : (l.map (·.1)).Nodup) (h : (a, b) ∈ l) : lookA l a = some b := by
  induction l with
  | nil => cases h
  | cons p l ih =>
    rw [List.map_cons, List.nodup_cons] at hn
    unfold lookA
    rw [List.find?_cons]
    rcases List.mem_cons.mp h with z | z
    · subst z
      rw [decide_eq_true rfl]
      rfl
    · have ne : p.1 ≠ a := fun e => hn.1 (by rw [e]; exact List.mem_map.mpr ⟨_, z, rfl⟩)
      rw [decide_eq_false ne]
      exact ih hn.2 z
theorem lookA_map {l : List α} (f : α → β) {a : α} (h : a ∈ l) : lookA (l.map fun x => (x, f x)) a = some (f a) := by
  induction l with
  | nil => cases h
  | cons x l ih =>
    unfold lookA
    rw [List.map_cons, List.find?_cons]
    by_cases e : x = a
    · subst e
      rw [decide_eq_true rfl]
      rfl
    · rw [decide_eq_false (by simpa using e)]
      rcases List.mem_cons.mp h with z | z
      · exact (e z.symm).elim
      · exact ih z
theorem hasA_map (l : List α) (f : α → β) (a : α) : hasA (l.map fun x => (x, f x)) a = decide (a ∈ l) := by
  unfold hasA
  rw [List.any_map, Bool.eq_iff_iff, List.any_eq_true, decide_eq_true_iff]
  constructor
  · rintro ⟨x, hx, e⟩
    have e' : x = a := of_decide_eq_true e
    rw [← e']
    exact hx
  · intro h
    exact ⟨a, h, decide_eq_true rfl⟩
/-- a table told by a function on a row of keys -/
abbrev dicF (E : α → D) (V : β → D) (l : List α) (f : α → β) : D := dicA E V (l.map fun x => (x, f x))
end
def memsStep (found : List (List Int)) (n : Int) : List (List Int) := found.flatMap fun x => (List.range n.toNat).map fun i : Nat => x ++ [(i : Int)]
def mems (rs : List Int) : List (List Int) := rs.foldl memsStep [[]]
def prs (rs : List Int) : List (List Int × List Int) := (mems rs).flatMap fun x => (mems rs).map fun y => (x, y)
theorem mem_prs {rs x y : List Int} : (x, y) ∈ prs rs ↔ x ∈ mems rs ∧ y ∈ mems rs := by
  unfold prs
  rw [List.mem_flatMap]
  constructor
  · rintro ⟨a, ha, h⟩
    obtain ⟨b, hb, e⟩ := List.mem_map.mp h
    injection e with e1 e2
    subst e1 e2
    exact ⟨ha, hb⟩
  · rintro ⟨h1, h2⟩
    exact ⟨x, h1, List.mem_map.mpr ⟨y, h2, rfl⟩⟩
end Mir
namespace Mir
open PySem PySem.Spec PyProof.Rows L2
variable [Tn]
/-- a group by rounds -/
abbrev gR (rs : List Int) : D := .obj 0 [tuI rs]
/-- rounds that make a group -/
structure OkR (rs : List Int) : Prop where
  two : ∀ n ∈ rs, 2 ≤ n
  len : rs.length ≤ 7
structure OkE (rs x : List Int) : Prop where
  len : x.length = rs.length
  at_ : ∀ p ∈ x.zip rs, 0 ≤ p.1 ∧ p.1 < p.2
theorem fld_rounds (rs : List Int) : fldD (plOf [0] "rounds") (gR rs) = .ok (tuI rs) := by
  have e : plOf [0] "rounds" 0 = some 0 := by kernel_rfl
  unfold fldD
  simp [e]
theorem is_tuple (cs us : List Nat) (xs : List D) : isD cs us (.tup xs) (.ty "tuple") = .ok (.bl true) := rfl
theorem mem_zip2 {xs ys : List Int} {d : D} (h : d ∈ zipL2 (xs.map D.int) (ys.map D.int)) : ∃ p ∈ xs.zip ys, d = .tup [.int p.1, .int p.2] := by
  unfold zipL2 at h
  rw [List.zip_map, List.map_map] at h
  obtain ⟨p, hp, e⟩ := List.mem_map.mp h
  exact ⟨p, hp, e.symm⟩
/-- the sum by rounds -/
def putV (rs x y : List Int) : List Int := (x.zip (y.zip rs)).map fun p => (p.1 + p.2.1) % p.2.2
def backV (rs x : List Int) : List Int := (x.zip rs).map fun p => (0 - p.1) % p.2
def zeroV (rs : List Int) : List Int := rs.map fun _ => 0
theorem putV_len {rs x y : List Int} (h1 : x.length = rs.length) (h2 : y.length = rs.length) : (putV rs x y).length = rs.length := by simp [putV, h1, h2]
theorem put_el {rs x y : List Int} (h : OkR rs) (h1 : x.length = rs.length) (h2 : y.length = rs.length) : OkE rs (putV rs x y) := by
  refine ⟨putV_len h1 h2, fun p hp => ?_⟩
  obtain ⟨i, hi⟩ := List.getElem?_of_mem hp
  obtain ⟨g1, g2⟩ := List.getElem?_zip_eq_some.mp hi
  unfold putV at g1
  rw [List.getElem?_map, Option.map_eq_some_iff] at g1
  obtain ⟨q, hq, e⟩ := g1
  obtain ⟨_, q2⟩ := List.getElem?_zip_eq_some.mp hq
  obtain ⟨_, q3⟩ := List.getElem?_zip_eq_some.mp q2
  have en : q.2.2 = p.2 := Option.some.inj (q3.symm.trans g2)
  have t : (2 : Int) ≤ p.2 := h.two _ (List.of_mem_zip hp).2
  rw [← e, en]
  exact ⟨Int.emod_nonneg _ (by omega), Int.emod_lt_of_pos _ (by omega)⟩
theorem backV_len {rs x : List Int} (h1 : x.length = rs.length) : (backV rs x).length = rs.length := by simp [backV, h1]
theorem back_el {rs x : List Int} (h : OkR rs) (h1 : x.length = rs.length) : OkE rs (backV rs x) := by
  refine ⟨backV_len h1, fun p hp => ?_⟩
  obtain ⟨i, hi⟩ := List.getElem?_of_mem hp
  obtain ⟨g1, g2⟩ := List.getElem?_zip_eq_some.mp hi
  unfold backV at g1
  rw [List.getElem?_map, Option.map_eq_some_iff] at g1
  obtain ⟨q, hq, e⟩ := g1
  obtain ⟨_, q3⟩ := List.getElem?_zip_eq_some.mp hq
  have en : q.2 = p.2 := Option.some.inj (q3.symm.trans g2)
  have t : (2 : Int) ≤ p.2 := h.two _ (List.of_mem_zip hp).2
  rw [← e, en]
  exact ⟨Int.emod_nonneg _ (by omega), Int.emod_lt_of_pos _ (by omega)⟩
theorem zero_el {rs : List Int} (h : OkR rs) : OkE rs (zeroV rs) := by
  refine ⟨by simp [zeroV], fun p hp => ?_⟩
  obtain ⟨q1, q2⟩ := List.of_mem_zip hp
  unfold zeroV at q1
  obtain ⟨n, _, e⟩ := List.mem_map.mp q1
  have t : (2 : Int) ≤ p.2 := h.two _ q2
  omega
/-- a while that goes down: k turns at most -/
theorem whileD_down {c : Env → Res Bool} {b : Env → Oc} (P : Nat → Env → Prop) (Q : Env → Prop) (step : ∀ k r, P k r → (c r = .ok false ∧ Q r) ∨ (∃ j r', k = j + 1 ∧ c r = .ok true ∧ b r = .nx r' ∧ P j r')) :
    ∀ (k N : Nat) (r : Env), P k r → k < N → ∃ r', whileD c b N r = .nx r' ∧ Q r' := fun k => by
  induction k with
  | zero =>
    intro N r hP hN
    obtain ⟨M, rfl⟩ : ∃ M, N = M + 1 := ⟨N - 1, by omega⟩
    rcases step 0 r hP with ⟨h1, h2⟩ | ⟨j, r', h, _⟩
    · exact ⟨r, by rw [whileD, h1]; rfl, h2⟩
    · omega
  | succ k ih =>
    intro N r hP hN
    obtain ⟨M, rfl⟩ : ∃ M, N = M + 1 := ⟨N - 1, by omega⟩
    rcases step (k + 1) r hP with ⟨h1, h2⟩ | ⟨j, r', h, h1, h2, h3⟩
    · exact ⟨r, by rw [whileD, h1]; rfl, h2⟩
    · obtain rfl : k = j := by omega
      obtain ⟨r2, q1, q2⟩ := ih M r' h3 (by omega)
      refine ⟨r2, ?_, q2⟩
      rw [whileD, h1]
      simp only [lift_ok, if_true, h2]
      exact q1
theorem loopD_down {c : Env → Res Bool} {b : Env → Oc} (P : Nat → Env → Prop) (Q : Env → Prop) (step : ∀ k r, P k r → (c r = .ok false ∧ Q r) ∨ (∃ j r', k = j + 1 ∧ c r = .ok true ∧ b r = .nx r' ∧ P j r'))
    {k : Nat} {r : Env} (h : P k r) (hk : k < 1000000) : ∃ r', loopD c b r = .nx r' ∧ Q r' := by
  unfold loopD
  rw [turns_eq]
  exact whileD_down P Q step k _ r h hk
/-- so many times -/
def timesV (rs : List Int) (n : Int) (x : List Int) : List Int := (x.zip rs).map fun p => n * p.1 % p.2
/-- rounds that the program takes -/
structure OkG (rs : List Int) : Prop where
  ok : OkR rs
  most : ∀ n ∈ rs, n ≤ 144
  prod : rs.foldl (· * ·) 1 ≤ 144
theorem take_more {α : Type} {l : List α} {i : Nat} {x : α} (h : l[i]? = some x) : l.take (i + 1) = l.take i ++ [x] := by
  rw [List.take_add_one, h]
  rfl
theorem is_seq (src : D) (rs : List Int) (h : src = tuI rs ∨ src = liI rs) (cs us : List Nat) : isD cs us src (.tup [.ty "list", .ty "tuple"]) = .ok (.bl true) := by
  rcases h with rfl | rfl <;> kernel_rfl
theorem runI_nx {p n c : Nat} {g : Env → Oc} {ds : List D} {r : Env} (h : ds.length = p) (e : g (startI n c ds) = .nx r) : runI p n c g ds = selfR r := by
  unfold runI
  rw [if_pos h, e]
theorem getD_zip {xs ys : List Int} {f : Int × Int → Int} {i : Nat} (h1 : i < xs.length) (h2 : i < ys.length) : ((xs.zip ys).map f).getD i 0 = f (xs.getD i 0, ys.getD i 0) := by
  have e1 : xs[i]? = some (xs.getD i 0) := by rw [List.getD_eq_getElem?_getD, List.getElem?_eq_getElem h1]; rfl
  have e2 : ys[i]? = some (ys.getD i 0) := by rw [List.getD_eq_getElem?_getD, List.getElem?_eq_getElem h2]; rfl
  have e3 : (xs.zip ys)[i]? = some (xs.getD i 0, ys.getD i 0) := List.getElem?_zip_eq_some.mpr ⟨e1, e2⟩
  rw [List.getD_eq_getElem?_getD, List.getElem?_map, e3]
  rfl
theorem putV_at {rs x y : List Int} {i : Nat} (hi : i < rs.length) (h1 : x.length = rs.length) (h2 : y.length = rs.length) : (putV rs x y).getD i 0 = (x.getD i 0 + y.getD i 0) % rs.getD i 0 := by
  have e1 : x[i]? = some (x.getD i 0) := by rw [List.getD_eq_getElem?_getD, List.getElem?_eq_getElem (by omega)]; rfl
  have e2 : y[i]? = some (y.getD i 0) := by rw [List.getD_eq_getElem?_getD, List.getElem?_eq_getElem (by omega)]; rfl
  have e3 : rs[i]? = some (rs.getD i 0) := by rw [List.getD_eq_getElem?_getD, List.getElem?_eq_getElem hi]; rfl
  have e4 : (x.zip (y.zip rs))[i]? = some (x.getD i 0, y.getD i 0, rs.getD i 0) := List.getElem?_zip_eq_some.mpr ⟨e1, List.getElem?_zip_eq_some.mpr ⟨e2, e3⟩⟩
  unfold putV
  rw [List.getD_eq_getElem?_getD, List.getElem?_map, e4]
  rfl
theorem ext_getD {xs ys : List Int} (hl : xs.length = ys.length) (h : ∀ i, i < ys.length → xs.getD i 0 = ys.getD i 0) : xs = ys := by
  apply List.ext_getElem hl
  intro i h1 h2
  have := h i h2
  rw [List.getD_eq_getElem?_getD, List.getD_eq_getElem?_getD, List.getElem?_eq_getElem h1, List.getElem?_eq_getElem h2] at this
  exact this
theorem OkE.get {rs x : List Int} (h : OkE rs x) {i : Nat} (hi : i < rs.length) : 0 ≤ x.getD i 0 ∧ x.getD i 0 < rs.getD i 0 := by
  have e1 : x[i]? = some (x.getD i 0) := by rw [List.getD_eq_getElem?_getD, List.getElem?_eq_getElem (by rw [h.len]; exact hi)]; rfl
  have e3 : rs[i]? = some (rs.getD i 0) := by rw [List.getD_eq_getElem?_getD, List.getElem?_eq_getElem hi]; rfl
  exact h.at_ _ (List.mem_of_getElem? (List.getElem?_zip_eq_some.mpr ⟨e1, e3⟩ : (x.zip rs)[i]? = some (x.getD i 0, rs.getD i 0)))
theorem OkR.get {rs : List Int} (h : OkR rs) {i : Nat} (hi : i < rs.length) : 2 ≤ rs.getD i 0 := by
  have e3 : rs[i]? = some (rs.getD i 0) := by rw [List.getD_eq_getElem?_getD, List.getElem?_eq_getElem hi]; rfl
  exact h.two _ (List.mem_of_getElem? e3)
theorem zeroV_at (rs : List Int) (i : Nat) : (zeroV rs).getD i 0 = 0 := by
  unfold zeroV
  rw [List.getD_eq_getElem?_getD, List.getElem?_map]
  cases rs[i]? <;> rfl
/-- what stays while the number is halved -/
structure TInv (rs x0 : List Int) (n0 n : Int) (x f : List Int) : Prop where
  lx : x.length = rs.length
  ef : OkE rs f
  nn : 0 ≤ n
  eq : ∀ i, i < rs.length → (f.getD i 0 + n * x.getD i 0) % rs.getD i 0 = n0 * x0.getD i 0 % rs.getD i 0
theorem timesV_at {rs x : List Int} {n : Int} {i : Nat} (hi : i < rs.length) (hl : x.length = rs.length) : (timesV rs n x).getD i 0 = n * x.getD i 0 % rs.getD i 0 := getD_zip (f := fun p => n * p.1 % p.2) (by omega) hi
theorem TInv.done {rs x0 x f : List Int} {n0 : Int} (h : OkR rs) (hl : x0.length = rs.length) (v : TInv rs x0 n0 0 x f) : f = timesV rs n0 x0 := by
  refine ext_getD (by rw [v.ef.len]; simp [timesV, hl]) fun i hi => ?_
  have hi' : i < rs.length := by simpa [timesV, hl] using hi
  have e := v.eq i hi'
  obtain ⟨a, b⟩ := v.ef.get hi'
  rw [Int.zero_mul, Int.add_zero, Int.emod_eq_of_lt a b] at e
  rw [e, timesV_at hi' hl]
theorem backV_at {rs x : List Int} {i : Nat} (hi : i < rs.length) (hl : x.length = rs.length) : (backV rs x).getD i 0 = (0 - x.getD i 0) % rs.getD i 0 := getD_zip (f := fun p => (0 - p.1) % p.2) (by omega) hi
theorem timesV_len (rs x : List Int) (n : Int) (hl : x.length = rs.length) : (timesV rs n x).length = rs.length := by simp [timesV, hl]
theorem foldl_pos : ∀ (rs : List Int) (a : Int), 1 ≤ a → (∀ n ∈ rs, 2 ≤ n) → 1 ≤ rs.foldl (· * ·) a
  | [], _, h, _ => h
  | r :: rs, a, h, h2 => foldl_pos rs (a * r) (by
    have := h2 r List.mem_cons_self
    have q : 1 * 1 ≤ a * r := Int.mul_le_mul h (by omega) (by omega) (by omega)
    omega) fun n hn => h2 n (List.mem_cons_of_mem _ hn)
theorem times_succ {rs x : List Int} (hl : x.length = rs.length) (j : Nat) : putV rs (timesV rs j x) x = timesV rs ((j + 1 : Nat) : Int) x := ext_getD (by rw [putV_len (timesV_len rs x j hl) hl, timesV_len rs x _ hl]) fun i hi => by
  have hi' : i < rs.length := by rw [timesV_len rs x _ hl] at hi; exact hi
  rw [putV_at hi' (timesV_len rs x j hl) hl, timesV_at hi' hl, timesV_at hi' hl]
  have e : ((j + 1 : Nat) : Int) * x.getD i 0 = (j : Int) * x.getD i 0 + x.getD i 0 := by
    rw [Int.natCast_add, Int.add_mul]
    show _ + (1 : Int) * _ = _
    rw [Int.one_mul]
  rw [e, Int.emod_add_emod]
/-- a comprehension over the places -/
theorem lcD_places {g : D → Env → Res Env} {t : Env → Res Bool} {f : Env → Res D} {r : Env} (ys : List Int) (h : ∀ i : Nat, i < ys.length → ∃ r1, g (.int (i : Nat)) r = .ok r1 ∧ t r1 = .ok true ∧ f r1 = .ok (.int (ys.getD i 0))) : lcD g t f r (rangeL 0 ys.length) = .ok (ys.map .int) := by
  rw [lcD_map (fun d => match d with | .int i => .int (ys.getD i.toNat 0) | _ => .non) (fun d hd => by
    obtain ⟨i, hi, rfl⟩ := mem_rangeL hd
    rw [Int.zero_add]
    obtain ⟨r1, h1, h2, h3⟩ := h i hi
    exact ⟨r1, h1, h2, by simpa using h3⟩)]
  congr 1
  apply List.ext_getElem?
  intro i
  unfold rangeL
  rw [List.map_map, List.getElem?_map, List.getElem?_map]
  by_cases hi : i < ys.length
  · rw [List.getElem?_range hi, List.getElem?_eq_getElem hi]
    simp [List.getElem?_eq_getElem hi]
  · rw [List.getElem?_eq_none (by simpa using hi), List.getElem?_eq_none (by simpa using hi)]
    rfl
theorem prod_app (f : List Int) (a b : Int) : (f ++ [a]).foldl (· * ·) b = f.foldl (· * ·) b * a := by rw [List.foldl_append]; rfl
/-- what stays while rounds are drawn -/
structure RIM (most : Int) (i : Nat) (f : List Int) (left : Int) : Prop where
  len : f.length ≤ i
  two : ∀ n ∈ f, 2 ≤ n
  le : ∀ n ∈ f, n ≤ most
  one : 1 ≤ left
  prod : f.foldl (· * ·) 1 * left ≤ most
theorem RIM.left_le {most : Int} {i : Nat} {f : List Int} {left : Int} (v : RIM most i f left) : left ≤ most := by
  have p := foldl_pos f 1 (by omega) v.two
  have q : 1 * left ≤ f.foldl (· * ·) 1 * left := Int.mul_le_mul_of_nonneg_right p (by have := v.one; omega)
  have := v.prod
  omega
theorem RIM.step {most : Int} {i : Nat} {f : List Int} {left n : Int} (v : RIM most i f left) (h2 : 2 ≤ n) (h : n ≤ left) : RIM most (i + 1) (f ++ [n]) (left / n) where
  len := by have := v.len; simp; omega
  two := fun m hm => by
    rcases List.mem_append.mp hm with z | z
    · exact v.two m z
    · rw [List.mem_singleton.mp z]; exact h2
  le := fun m hm => by
    rcases List.mem_append.mp hm with z | z
    · exact v.le m z
    · have := v.left_le
      rw [List.mem_singleton.mp z]; omega
  one := by
    have z : 1 * n ≤ left := by omega
    exact (Int.le_ediv_iff_mul_le (by omega)).mpr z
  prod := by
    rw [prod_app, Int.mul_assoc]
    have p := foldl_pos f 1 (by omega) v.two
    have z : n * (left / n) ≤ left := Int.mul_ediv_self_le (by omega)
    have q := Int.mul_le_mul_of_nonneg_left z (show 0 ≤ f.foldl (· * ·) 1 by omega)
    have := v.prod
    omega
theorem RIM.mono {most : Int} {i : Nat} {f : List Int} {left : Int} (v : RIM most i f left) : RIM most (i + 1) f left := ⟨by have := v.len; omega, v.two, v.le, v.one, v.prod⟩
/-- rounds drawn: of a product of at most so many -/
structure OkM (most : Int) (rs : List Int) : Prop where
  ok : OkG rs
  prod : rs.foldl (· * ·) 1 ≤ most
  len : rs.length ≤ 3
/-- things of a plain kind -/
def plainD : D → Bool
  | .non => true
  | .bl _ => true
  | .int _ => true
  | .str _ => true
  | .tup _ => true
  | .lst _ => true
  | .dic _ _ => true
  | _ => false
def isW : D → Bool
  | .int _ => true
  | _ => false
def inB : D → Int → Bool
  | .int i, m => decide (0 ≤ i) && decide (i < m)
  | _, _ => false
/-- whether a thing is an element -/
def elB (rs : List Int) : D → Bool
  | .tup ds => decide (ds.length = rs.length) && (ds.zip rs).all fun p => inB p.1 p.2
  | _ => false
/-- what is asked here -/
def plainT : D → Bool
  | .tup ds => ds.all plainD
  | d => plainD d
theorem is_tuple_any {d : D} (h : plainT d = true) (cs us : List Nat) : isD cs us d (.ty "tuple") = .ok (.bl (match d with | .tup _ => true | _ => false)) := by
  cases d <;> first | (cases h; done) | rfl
theorem ints_of : ∀ {ds : List D} {rs : List Int}, ds.length = rs.length → ((ds.zip rs).all fun p => inB p.1 p.2) = true → ∃ x : List Int, ds = x.map D.int ∧ ∀ p ∈ x.zip rs, 0 ≤ p.1 ∧ p.1 < p.2
  | [], [], _, _ => ⟨[], rfl, fun _ h => nomatch h⟩
  | [], _ :: _, h, _ => by simp at h
  | _ :: _, [], h, _ => by simp at h
  | d :: ds, m :: rs, hl, h => by
    rw [List.zip_cons_cons, List.all_cons, Bool.and_eq_true] at h
    obtain ⟨x, e, q⟩ := ints_of (by simpa using hl) h.2
    cases d with
    | int i =>
      have h1 : 0 ≤ i ∧ i < m := by simpa [inB] using h.1
      refine ⟨i :: x, by rw [e]; rfl, fun p hp => ?_⟩
      rw [List.zip_cons_cons] at hp
      rcases List.mem_cons.mp hp with z | z
      · subst z; exact h1
      · exact q p z
    | _ => simp [inB] at h
theorem elB_el {rs : List Int} {d : D} (h : elB rs d = true) : ∃ x, OkE rs x ∧ d = tuI x := by
  cases d with
  | tup ds =>
    unfold elB at h
    rw [Bool.and_eq_true, decide_eq_true_iff] at h
    obtain ⟨x, e, q⟩ := ints_of h.1 h.2
    refine ⟨x, ⟨?_, q⟩, by rw [e]⟩
    have := h.1
    rw [e] at this
    simpa using this
  | _ => cases h
theorem mem_zip_any {ds : List D} {rs : List Int} {d : D} (h : d ∈ zipL2 ds (rs.map D.int)) : ∃ p ∈ ds.zip rs, d = .tup [p.1, .int p.2] := by
  unfold zipL2 at h
  rw [List.zip_map_right, List.map_map] at h
  obtain ⟨p, hp, e⟩ := List.mem_map.mp h
  exact ⟨p, hp, e.symm⟩
theorem any_zip {ds : List D} {rs : List Int} (f : D → Int → Bool) (g : D → Bool) (h : ∀ a i, g (.tup [a, .int i]) = f a i) : (zipL2 ds (rs.map D.int)).any g = (ds.zip rs).any fun p => f p.1 p.2 := by
  unfold zipL2
  rw [List.zip_map_right, List.map_map, List.any_map]
  congr 1
  funext p
  exact h p.1 p.2
end Mir
namespace Mir
open PySem PySem.Spec PyProof.Rows L2
variable [Tn]
theorem nodup_flat {α β : Type} {f : α → List β} : ∀ {l : List α}, (∀ a ∈ l, (f a).Nodup) → l.Pairwise (fun a b => ∀ x ∈ f a, x ∉ f b) → (l.flatMap f).Nodup
  | [], _, _ => by simp
  | a :: l, h, p => by
    rw [List.pairwise_cons] at p
    rw [List.flatMap_cons, List.nodup_append]
    refine ⟨h a List.mem_cons_self, nodup_flat (fun b hb => h b (List.mem_cons_of_mem _ hb)) p.2, fun x hx y hy e => ?_⟩
    subst e
    obtain ⟨b, hb, hy⟩ := List.mem_flatMap.mp hy
    exact p.1 b hb x hx hy
theorem nodup_inj {α β : Type} {f : α → β} (hf : ∀ a b, f a = f b → a = b) : ∀ {l : List α}, l.Nodup → (l.map f).Nodup
  | [], _ => by simp
  | a :: l, h => by
    rw [List.nodup_cons] at h
    rw [List.map_cons, List.nodup_cons]
    refine ⟨fun hm => ?_, nodup_inj hf h.2⟩
    obtain ⟨b, hb, e⟩ := List.mem_map.mp hm
    exact h.1 (hf _ _ e ▸ hb)
theorem sum_const {α : Type} (c : Nat) : ∀ l : List α, (l.map fun _ => c).sum = l.length * c
  | [] => by simp
  | a :: l => by rw [List.map_cons, List.sum_cons, sum_const c l, List.length_cons, Nat.succ_mul]; omega
theorem OkE.nil : OkE [] [] := ⟨rfl, fun _ h => nomatch h⟩
theorem OkE.cons {n i : Int} {rs t : List Int} : OkE (n :: rs) (i :: t) ↔ (0 ≤ i ∧ i < n) ∧ OkE rs t := by
  constructor
  · intro h
    refine ⟨h.at_ (i, n) (by simp), ⟨by have := h.len; simpa using this, fun p hp => h.at_ p (by rw [List.zip_cons_cons]; exact List.mem_cons_of_mem _ hp)⟩⟩
  · rintro ⟨h1, h2⟩
    refine ⟨by simp [h2.len], fun p hp => ?_⟩
    rw [List.zip_cons_cons] at hp
    rcases List.mem_cons.mp hp with z | z
    · subst z; exact h1
    · exact h2.at_ p z
theorem mem_fold : ∀ (rs : List Int) (S : List (List Int)) (x : List Int), x ∈ rs.foldl memsStep S ↔ ∃ s t, s ∈ S ∧ x = s ++ t ∧ OkE rs t
  | [], S, x => by
    rw [List.foldl_nil]
    constructor
    · intro h
      exact ⟨x, [], h, by simp, .nil⟩
    · rintro ⟨s, t, hs, rfl, ht⟩
      have : t = [] := List.length_eq_zero_iff.mp ht.len
      subst this
      simpa using hs
  | n :: rs, S, x => by
    rw [List.foldl_cons, mem_fold rs]
    constructor
    · rintro ⟨s, t, hs, rfl, ht⟩
      unfold memsStep at hs
      obtain ⟨a, ha, hs⟩ := List.mem_flatMap.mp hs
      obtain ⟨i, hi, rfl⟩ := List.mem_map.mp hs
      have := List.mem_range.mp hi
      exact ⟨a, (i : Int) :: t, ha, by simp, OkE.cons.mpr ⟨⟨by omega, by omega⟩, ht⟩⟩
    · rintro ⟨s, t, hs, rfl, ht⟩
      cases t with
      | nil => have := ht.len; simp at this
      | cons i t =>
        obtain ⟨⟨h1, h2⟩, h3⟩ := OkE.cons.mp ht
        refine ⟨s ++ [i], t, ?_, by simp, h3⟩
        unfold memsStep
        refine List.mem_flatMap.mpr ⟨s, hs, List.mem_map.mpr ⟨i.toNat, List.mem_range.mpr (by omega), ?_⟩⟩
        rw [Int.toNat_of_nonneg h1]
theorem mem_mems {rs x : List Int} : x ∈ mems rs ↔ OkE rs x := by
  unfold mems
  rw [mem_fold]
  constructor
  · rintro ⟨s, t, hs, rfl, ht⟩
    rw [List.mem_singleton.mp hs]
    simpa using ht
  · intro h
    exact ⟨[], x, by simp, by simp, h⟩
theorem step_len (S : List (List Int)) (n : Int) : (memsStep S n).length = S.length * n.toNat := by
  unfold memsStep
  rw [List.length_flatMap]
  simp [sum_const]
theorem fold_len : ∀ (rs : List Int) (S : List (List Int)), (∀ n ∈ rs, 0 ≤ n) → ((rs.foldl memsStep S).length : Int) = rs.foldl (· * ·) (S.length : Int)
  | [], S, _ => rfl
  | n :: rs, S, h => by
    rw [List.foldl_cons, List.foldl_cons, fold_len rs _ fun m hm => h m (List.mem_cons_of_mem _ hm), step_len]
    congr 1
    have := h n List.mem_cons_self
    rw [Int.natCast_mul, Int.toNat_of_nonneg this]
theorem mems_len {rs : List Int} (h : ∀ n ∈ rs, 0 ≤ n) : ((mems rs).length : Int) = rs.foldl (· * ·) 1 := by
  unfold mems
  rw [fold_len rs _ h]
  rfl
theorem fold_nodup : ∀ (rs : List Int) (S : List (List Int)) (k : Nat), S.Nodup → (∀ s ∈ S, s.length = k) → (rs.foldl memsStep S).Nodup
  | [], S, _, h, _ => h
  | n :: rs, S, k, h, hk => by
    rw [List.foldl_cons]
    refine fold_nodup rs _ (k + 1) ?_ fun s hs => ?_
    · unfold memsStep
      refine nodup_flat (fun s _ => ?_) ?_
      · refine nodup_inj (fun a b e => ?_) List.nodup_range
        have := List.append_cancel_left e
        have z : ((a : Nat) : Int) = b := by simpa using this
        omega
      · refine List.Pairwise.imp_of_mem (R := fun a b => a ≠ b) (fun {a b} ha hb ne => ?_) h
        intro x hx hy
        obtain ⟨i, _, rfl⟩ := List.mem_map.mp hx
        obtain ⟨j, _, e⟩ := List.mem_map.mp hy
        have := List.append_inj_left e (by rw [hk a ha, hk b hb])
        exact ne this.symm
    · unfold memsStep at hs
      obtain ⟨a, ha, hs⟩ := List.mem_flatMap.mp hs
      obtain ⟨i, _, rfl⟩ := List.mem_map.mp hs
      simp [hk a ha]
theorem mems_nodup (rs : List Int) : (mems rs).Nodup := fold_nodup rs [[]] 0 (by simp) (by simp)
theorem prs_nodup (rs : List Int) : (prs rs).Nodup := by
  unfold prs
  refine nodup_flat (fun x _ => ?_) ?_
  · exact nodup_inj (fun a b e => (Prod.mk.inj e).2) (mems_nodup rs)
  · refine List.Pairwise.imp (R := fun a b => a ≠ b) (fun {a b} ne => ?_) (mems_nodup rs)
    intro x hx hy
    obtain ⟨i, _, rfl⟩ := List.mem_map.mp hx
    obtain ⟨j, _, e⟩ := List.mem_map.mp hy
    exact ne (Prod.mk.inj e).1.symm
theorem prs_len (rs : List Int) : (prs rs).length = (mems rs).length * (mems rs).length := by
  unfold prs
  rw [List.length_flatMap]
  simp [sum_const]
/-- the upper groups that are let in -/
def smallUps : List (List Int) := [[], [2], [3], [4], [5], [6], [7], [8], [9], [2, 2], [2, 3], [2, 4], [3, 2], [3, 3], [4, 2], [2, 2, 2]]
theorem small_ups {rs : List Int} (h : ∀ n ∈ rs, 2 ≤ n) (hp : rs.foldl (· * ·) 1 ≤ 9) : rs ∈ smallUps := by
  match rs, h, hp with
  | [], _, _ => decide
  | [a], h, hp =>
    have h2 := h a (by simp)
    have hp : 1 * a ≤ 9 := hp
    have : a = 2 ∨ a = 3 ∨ a = 4 ∨ a = 5 ∨ a = 6 ∨ a = 7 ∨ a = 8 ∨ a = 9 := by omega
    rcases this with rfl | rfl | rfl | rfl | rfl | rfl | rfl | rfl <;> decide
  | [a, b], h, hp =>
    have h2 := h a (by simp)
    have h3 := h b (by simp)
    have hp : 1 * a * b ≤ 9 := hp
    rw [Int.one_mul] at hp
    have ha : a ≤ 4 := by
      have := Int.mul_le_mul_of_nonneg_left h3 (show 0 ≤ a by omega)
      omega
    have hb : b ≤ 4 := by
      have := Int.mul_le_mul_of_nonneg_right h2 (show 0 ≤ b by omega)
      omega
    have e1 : a = 2 ∨ a = 3 ∨ a = 4 := by omega
    have e2 : b = 2 ∨ b = 3 ∨ b = 4 := by omega
    rcases e1 with rfl | rfl | rfl <;> rcases e2 with rfl | rfl | rfl <;> first | decide | (exfalso; omega)
  | [a, b, c], h, hp =>
    have h2 := h a (by simp)
    have h3 := h b (by simp)
    have h4 := h c (by simp)
    have hp : 1 * a * b * c ≤ 9 := hp
    rw [Int.one_mul] at hp
    have q1 : 2 * 2 ≤ a * b := Int.mul_le_mul h2 h3 (by omega) (by omega)
    have q2 : a * b * 2 ≤ a * b * c := Int.mul_le_mul_of_nonneg_left h4 (by omega)
    have q3 : 2 * 2 * c ≤ a * b * c := Int.mul_le_mul_of_nonneg_right q1 (by omega)
    have hc : c = 2 := by omega
    have hab : a * b ≤ 4 := by omega
    have ha : a ≤ 2 := by
      have := Int.mul_le_mul_of_nonneg_left h3 (show 0 ≤ a by omega)
      omega
    have hb : b ≤ 2 := by
      have := Int.mul_le_mul_of_nonneg_right h2 (show 0 ≤ b by omega)
      omega
    have e1 : a = 2 := by omega
    have e2 : b = 2 := by omega
    subst e1 e2 hc
    decide
  | a :: b :: c :: d :: rs, h, hp =>
    exfalso
    have h2 := h a (by simp)
    have h3 := h b (by simp)
    have h4 := h c (by simp)
    have h5 := h d (by simp)
    have hp : rs.foldl (· * ·) (1 * a * b * c * d) ≤ 9 := hp
    rw [Int.one_mul] at hp
    have q1 : 2 * 2 ≤ a * b := Int.mul_le_mul h2 h3 (by omega) (by omega)
    have q2 : 2 * 2 * 2 ≤ a * b * c := Int.mul_le_mul q1 h4 (by omega) (by omega)
    have q3 : 2 * 2 * 2 * 2 ≤ a * b * c * d := Int.mul_le_mul q2 h5 (by omega) (by omega)
    have mono : ∀ (l : List Int) (p : Int), 0 ≤ p → (∀ n ∈ l, 2 ≤ n) → p ≤ l.foldl (· * ·) p := fun l => by
      induction l with
      | nil => intro p _ _; exact Int.le_refl _
      | cons n l ih =>
        intro p hp hl
        rw [List.foldl_cons]
        have hn := hl n List.mem_cons_self
        have t : p * 1 ≤ p * n := Int.mul_le_mul_of_nonneg_left (by omega) hp
        have := ih (p * n) (by omega) fun m hm => hl m (List.mem_cons_of_mem _ hm)
        omega
    have := mono rs (a * b * c * d) (by omega) fun n hn => h n (by simp [hn])
    omega
theorem apart_prs {rs : List Int} (h : rs ∈ smallUps) : apartK ((prs rs).map pkD) = true := by
  simp only [smallUps, List.mem_cons, List.not_mem_nil, or_false] at h
  rcases h with rfl | rfl | rfl | rfl | rfl | rfl | rfl | rfl | rfl | rfl | rfl | rfl | rfl | rfl | rfl | rfl <;> decide +kernel
theorem dictD_F {α β : Type} [DecidableEq α] {E : α → D} {V : β → D} (l : List α) (f : α → β) (h : apartK (l.map E) = true) : dictD (dicF E V l f) = .ok (dicF E V l f) := by
  unfold dictD dicF dicA
  have e : ((l.map fun x => (x, f x)).map fun p => E p.1) = l.map E := by rw [List.map_map]; rfl
  simp only [e, h, if_true]
/-- a walk that gives up with what it finds first -/
theorem forD_find {α : Type} {f : D → Env → Oc} (A : α → D) (P : Env → Prop) (g : α → Option D) : ∀ {ds : List α} {r : Env}, (∀ a ∈ ds, ∀ r, P r → (∀ v, g a = some v → f (A a) r = .rt v) ∧ (g a = none → ∃ r', f (A a) r = .nx r' ∧ P r')) → P r →
    (∀ v, ds.findSome? g = some v → forD f (ds.map A) r = .rt v) ∧ (ds.findSome? g = none → ∃ r', forD f (ds.map A) r = .nx r' ∧ P r')
  | [], r, _, hp => ⟨fun v h => by simp at h, fun _ => ⟨r, rfl, hp⟩⟩
  | a :: ds, r, h, hp => by
    obtain ⟨h1, h2⟩ := h a List.mem_cons_self r hp
    rw [List.map_cons, forD_cons]
    cases hg : g a with
    | some v =>
      rw [List.findSome?_cons, hg, h1 v hg]
      exact ⟨fun w e => by cases e; rfl, fun e => by cases e⟩
    | none =>
      obtain ⟨r1, e, p1⟩ := h2 hg
      rw [List.findSome?_cons, hg, e]
      exact forD_find A P g (fun b hb => h b (List.mem_cons_of_mem _ hb)) p1
/-- a walk over a row, by places -/
theorem forD_row {α : Type} {pre0 : List α} {f : D → Env → Oc} (A : α → D) (P : List α → Env → Prop) : ∀ {ds : List α} {r : Env} {pre : List α}, (∀ (pre : List α) a, (pre ++ [a]) <+: pre0 → ∀ r, P pre r → ∃ r', f (A a) r = .nx r' ∧ P (pre ++ [a]) r') → pre ++ ds = pre0 → P pre r → ∃ r', forD f (ds.map A) r = .nx r' ∧ P (pre ++ ds) r'
  | [], r, pre, _, _, hp => ⟨r, rfl, by simpa using hp⟩
  | a :: ds, r, pre, h, he, hp => by
    obtain ⟨r1, e, p1⟩ := h pre a ⟨ds, by simpa using he⟩ r hp
    obtain ⟨r2, e2, p2⟩ := forD_row A P (pre := pre ++ [a]) (ds := ds) h (by simpa using he) p1
    refine ⟨r2, ?_, by simpa using p2⟩
    rw [List.map_cons, forD_cons, e]
    exact e2
/-- a table -/
def tabD (lo up : List Int) (c : List Int → List Int → List Int) : D := .obj 2 [gR lo, gR up, dicF pkD tuI (prs up) fun p => c p.1 p.2]
theorem runO_rt {p n : Nat} {g : Env → Oc} {ds : List D} {d : D} (h : ds.length = p) (e : g (startD n ds) = .rt d) : runO p n g ds = .ok d := by
  unfold runO
  rw [if_pos h, e]
theorem fillE {N : Nat} {α : Type} {lo : List Int} {f : D → Env → Oc} (A : α → D) (kx : α → List Int) (P : List (List Int × List Int) → Env → Prop) : ∀ {X : List α} {L : List (List Int × List Int)} {r : Env}, L.length + X.length ≤ N → (X.map kx).Nodup → (∀ a ∈ X, kx a ∉ L.map (·.1)) →
    (∀ L, L.length < N → ∀ a ∈ X, kx a ∉ L.map (·.1) → ∀ r, P L r → ∃ v r', OkE lo v ∧ f (A a) r = .nx r' ∧ P (setA L (kx a) v) r') → P L r →
    ∃ L' r', forD f (X.map A) r = .nx r' ∧ P (L ++ L') r' ∧ L'.map (·.1) = X.map kx ∧ ∀ p ∈ L', OkE lo p.2
  | [], L, r, _, _, _, _, hp => ⟨[], r, rfl, by simpa using hp, rfl, fun _ h => nomatch h⟩
  | a :: X, L, r, hl, hn, hf, h, hp => by
    rw [List.length_cons] at hl
    rw [List.map_cons, List.nodup_cons] at hn
    obtain ⟨v, r1, hv, e, p1⟩ := h L (by omega) a List.mem_cons_self (hf a List.mem_cons_self) r hp
    rw [setA_new v (hf a List.mem_cons_self)] at p1
    obtain ⟨L', r2, e2, p2, k2, v2⟩ := fillE (lo := lo) A kx P (L := L ++ [(kx a, v)]) (r := r1) (by simp; omega) hn.2 (fun z hz hm => by
      rw [List.map_append, List.mem_append] at hm
      rcases hm with m | m
      · exact hf z (List.mem_cons_of_mem _ hz) m
      · rw [List.map_cons, List.map_nil, List.mem_singleton] at m
        have m : kx z = kx a := m
        exact hn.1 (m ▸ List.mem_map.mpr ⟨z, hz, rfl⟩)) (fun L hL z hz => h L hL z (List.mem_cons_of_mem _ hz)) p1
    refine ⟨(kx a, v) :: L', r2, ?_, by simpa using p2, by simp [k2], fun p hq => ?_⟩
    · rw [List.map_cons, forD_cons, e]
      exact e2
    · rcases List.mem_cons.mp hq with z | z
      · subst z; exact hv
      · exact v2 p z
theorem lookA_all {lo : List Int} {α : Type} [DecidableEq α] {L : List (α × List Int)} (hn : (L.map (·.1)).Nodup) (hv : ∀ p ∈ L, OkE lo p.2) {x : α} (hx : x ∈ L.map (·.1)) : ∃ v, lookA L x = some v ∧ OkE lo v := by
  obtain ⟨p, hp, e⟩ := List.mem_map.mp hx
  refine ⟨p.2, ?_, hv p hp⟩
  subst e
  exact lookA_mem hn hp
theorem enumL_els (xs : List (List Int)) : enumL (xs.map tuI) = xs.zipIdx.map fun p => .tup [.int (p.2 : Nat), tuI p.1] := by
  unfold enumL
  rw [List.zipIdx_map, List.map_map]
  rfl
theorem zipIdx_fst {α : Type} (xs : List α) : xs.zipIdx.map (·.1) = xs := by
  simp
theorem mem_zipIdx_lt {α : Type} {xs : List α} {p : α × Nat} (h : p ∈ xs.zipIdx) : p.1 ∈ xs ∧ p.2 < xs.length := by
  obtain ⟨a, i⟩ := p
  have := List.mem_zipIdx h
  simp at this
  exact ⟨by rw [this.2]; exact List.getElem_mem _, by omega⟩
theorem OkE.snoc {rs x : List Int} {n v : Int} (h : OkE rs x) (h0 : 0 ≤ v) (h1 : v < n) : OkE (rs ++ [n]) (x ++ [v]) := by
  refine ⟨by simp [h.len], fun p hp => ?_⟩
  rw [List.zip_append h.len] at hp
  rcases List.mem_append.mp hp with z | z
  · exact h.at_ p z
  · simp at z
    subst z
    exact ⟨h0, h1⟩
end Mir
namespace Mir
open PySem PySem.Spec PyProof.Rows L2
variable [Tn]
theorem fill1Q {N : Nat} {Q : List Int × List Int → List Int → Prop} {f : D → Env → Oc} {x : List Int} (P : List ((List Int × List Int) × List Int) → Env → Prop) : ∀ {ys : List (List Int)} {L : List ((List Int × List Int) × List Int)} {r : Env}, L.length + ys.length ≤ N → ys.Nodup → (∀ y ∈ ys, (x, y) ∉ L.map (·.1)) →
    (∀ L, L.length < N → ∀ y ∈ ys, (x, y) ∉ L.map (·.1) → ∀ r, P L r → ∃ v r', Q (x, y) v ∧ f (tuI y) r = .nx r' ∧ P (setA L (x, y) v) r') → P L r →
    ∃ L' r', forD f (ys.map tuI) r = .nx r' ∧ P (L ++ L') r' ∧ L'.map (·.1) = ys.map (fun y => (x, y)) ∧ ∀ p ∈ L', Q p.1 p.2
  | [], L, r, _, _, _, _, hp => ⟨[], r, rfl, by simpa using hp, rfl, fun _ h => nomatch h⟩
  | y :: ys, L, r, hl, hn, hf, h, hp => by
    rw [List.length_cons] at hl
    rw [List.nodup_cons] at hn
    obtain ⟨v, r1, hv, e, p1⟩ := h L (by omega) y List.mem_cons_self (hf y List.mem_cons_self) r hp
    rw [setA_new v (hf y List.mem_cons_self)] at p1
    obtain ⟨L', r2, e2, p2, k2, v2⟩ := fill1Q P (L := L ++ [((x, y), v)]) (r := r1) (by simp; omega) hn.2 (fun z hz hm => by
      rw [List.map_append, List.mem_append] at hm
      rcases hm with m | m
      · exact hf z (List.mem_cons_of_mem _ hz) m
      · rw [List.map_cons, List.map_nil, List.mem_singleton] at m
        injection m with _ m
        exact hn.1 (m ▸ hz)) (fun L hL z hz => h L hL z (List.mem_cons_of_mem _ hz)) p1
    refine ⟨((x, y), v) :: L', r2, ?_, by simpa using p2, by simp [k2], fun p hq => ?_⟩
    · rw [List.map_cons, forD_cons, e]
      exact e2
    · rcases List.mem_cons.mp hq with z | z
      · subst z; exact hv
      · exact v2 p z
theorem fill2Q {N : Nat} {α : Type} {up : List Int} {Q : List Int × List Int → List Int → Prop} {outer inner : D → Env → Oc} (A : α → D) (kx : α → List Int) (P : List ((List Int × List Int) × List Int) → Env → Prop) (P' : List ((List Int × List Int) × List Int) → α → Env → Prop) : ∀ {X : List α} {L : List ((List Int × List Int) × List Int)} {r : Env}, L.length + X.length * (mems up).length ≤ N → (X.map kx).Nodup → (∀ a ∈ X, ∀ y ∈ mems up, (kx a, y) ∉ L.map (·.1)) →
    (∀ L, L.length < N → ∀ a ∈ X, ∀ y ∈ mems up, (kx a, y) ∉ L.map (·.1) → ∀ r, P' L a r → ∃ v r', Q (kx a, y) v ∧ inner (tuI y) r = .nx r' ∧ P' (setA L (kx a, y) v) a r') →
    (∀ L, ∀ a ∈ X, ∀ r, P L r → ∃ r1, P' L a r1 ∧ ∀ L' r2, forD inner ((mems up).map tuI) r1 = .nx r2 → P' L' a r2 → ∃ r3, outer (A a) r = .nx r3 ∧ P L' r3) → P L r →
    ∃ L' r', forD outer (X.map A) r = .nx r' ∧ P (L ++ L') r' ∧ L'.map (·.1) = X.flatMap (fun a => (mems up).map fun y => (kx a, y)) ∧ ∀ p ∈ L', Q p.1 p.2
  | [], L, r, _, _, _, _, _, hp => ⟨[], r, rfl, by simpa using hp, rfl, fun _ h => nomatch h⟩
  | a :: X, L, r, hl, hn, hf, hi, ho, hp => by
    rw [List.length_cons, Nat.succ_mul] at hl
    rw [List.map_cons, List.nodup_cons] at hn
    obtain ⟨r1, p1, q⟩ := ho L a List.mem_cons_self r hp
    obtain ⟨L1, r2, e1, p2, k1, v1⟩ := fill1Q (Q := Q) (f := inner) (x := kx a) (N := N) (fun L r => P' L a r) (by omega) (mems_nodup up) (hf a List.mem_cons_self) (fun L hL y hy hm r hr => hi L hL a List.mem_cons_self y hy hm r hr) p1
    obtain ⟨r3, e3, p3⟩ := q _ r2 e1 p2
    obtain ⟨L2, r4, e4, p4, k2, v2⟩ := fill2Q A kx P P' (X := X) (L := L ++ L1) (r := r3) (by have := congrArg List.length k1; rw [List.length_map, List.length_map] at this; rw [List.length_append]; omega) hn.2 (fun b hb y hy hm => by
      rw [List.map_append, List.mem_append] at hm
      rcases hm with m | m
      · exact hf b (List.mem_cons_of_mem _ hb) y hy m
      · rw [k1] at m
        obtain ⟨z, _, e⟩ := List.mem_map.mp m
        injection e with e _
        exact hn.1 (e ▸ List.mem_map.mpr ⟨b, hb, rfl⟩)) (fun L hL b hb => hi L hL b (List.mem_cons_of_mem _ hb)) (fun L b hb => ho L b (List.mem_cons_of_mem _ hb)) p3
    refine ⟨L1 ++ L2, r4, ?_, by simpa using p4, by simp [k1, k2], fun p hq => ?_⟩
    · rw [List.map_cons, forD_cons, e3]
      exact e4
    · rcases List.mem_append.mp hq with z | z
      · exact v1 p z
      · exact v2 p z
theorem byRule {α β : Type} {L : List (α × β)} {g : α → β} (h : ∀ p ∈ L, p.2 = g p.1) : L = (L.map (·.1)).map fun a => (a, g a) := by
  rw [List.map_map]
  have e : ∀ p ∈ L, ((fun a => (a, g a)) ∘ (·.1)) p = p := fun p hp => by
    show (p.1, g p.1) = p
    rw [← h p hp]
  rw [List.map_congr_left e]
  simp
/-- the carry of the parts -/
def carryV (lo up : List Int) (ps : List (List Int)) (L : List ((Nat × Nat) × List Int)) (x y : List Int) : List Int :=
  L.foldl (fun f q => putV lo f (timesV lo (x.getD q.1.1 0 * y.getD q.1.2 0) q.2)) ((List.range up.length).foldl (fun f k => if up.getD k 0 ≤ x.getD k 0 + y.getD k 0 then putV lo f (ps.getD k []) else f) (zeroV lo))
def ownV (lo up : List Int) (hf : List Int → List Int) (x y : List Int) : List Int := putV lo (putV lo (hf x) (hf y)) (timesV lo (-1) (hf (putV up x y)))
/-- the pairs of places, the lesser first -/
def placeRow (n i : Nat) : List (Nat × Nat) := (List.range (n - (i + 1))).map fun k => (i, i + 1 + k)
def placePairs (n : Nat) : List (Nat × Nat) := (List.range n).flatMap (placeRow n)
theorem mem_placePairs {n : Nat} {p : Nat × Nat} : p ∈ placePairs n ↔ p.1 < p.2 ∧ p.2 < n := by
  unfold placePairs placeRow
  rw [List.mem_flatMap]
  constructor
  · rintro ⟨i, hi, h⟩
    obtain ⟨k, hk, rfl⟩ := List.mem_map.mp h
    have := List.mem_range.mp hk
    exact ⟨by show i < i + 1 + k; omega, by show i + 1 + k < n; omega⟩
  · rintro ⟨h1, h2⟩
    refine ⟨p.1, List.mem_range.mpr (by omega), List.mem_map.mpr ⟨p.2 - (p.1 + 1), List.mem_range.mpr (by omega), ?_⟩⟩
    obtain ⟨a, b⟩ := p
    have h1 : a < b := h1
    show (a, a + 1 + (b - (a + 1))) = (a, b)
    rw [Nat.add_sub_cancel' h1]
/-- what carries are made of -/
structure OkP (lo up : List Int) (ps : List (List Int)) (L : List ((Nat × Nat) × List Int)) : Prop where
  len : ps.length = up.length
  ps : ∀ k, k < up.length → OkE lo (ps.getD k [])
  key : L.map (·.1) = placePairs up.length
  val : ∀ q ∈ L, OkE lo q.2
theorem OkP.at_ {lo up : List Int} {ps : List (List Int)} {L : List ((Nat × Nat) × List Int)} (h : OkP lo up ps L) {q : (Nat × Nat) × List Int} (hq : q ∈ L) : q.1.1 < q.1.2 ∧ q.1.2 < up.length := by
  have : q.1 ∈ placePairs up.length := by rw [← h.key]; exact List.mem_map.mpr ⟨q, hq, rfl⟩
  exact mem_placePairs.mp this
end Mir
namespace Mir
open PySem PySem.Spec PyProof.Rows L2
variable [Tn]
theorem drawsS {prog : Program} {w : World} {A : Around} (hh : A.handled = none) (k : Bool) (it l : Addr) (hne : l ≠ it) (items : Array Value) :
    Draws prog w A it [it, l] items.size (fun i v => items[i]? = some v) (fun i h => SIt h k it l i ∧ SSrc h k l items) where
  live := fun _ _ st => let ⟨o, ho, _⟩ := st.1.ob; ⟨o, ho⟩
  frame := fun _ _ _ st hk => ⟨st.1.at fun o e => hk it (by simp) o e, st.2.at fun o e => hk l (by simp) o e⟩
  item := fun i s Q E hi st hQ => by
    refine nextS_item st.1 st.2 (x := items[i]) (by simp [hi]) fun h' hit' hs' => ?_
    exact hQ _ h' s.toks (by simp [hi]) ⟨hit', st.2.at fun o e => hs'.extBut _ _ hne e⟩ hs'
  done := fun s Q E st hE => nextS_end hh st.1 st.2 (by simp) hE
abbrev eH1 (h : Heap) (k : Bool) (l : Addr) : Heap := h.push { cls := .type (clsI k), data := .fields #[.ref l, .int 0 0] }
abbrev eH2 (h : Heap) (k : Bool) (l : Addr) : Heap := (eH1 h k l).push { cls := .type "enumerate", data := .fields #[.none, .bool false, .ref h.objs.size, rawInt 0, .none, .none] }
theorem meets_enumS (k : Bool) (l : Addr) (items : Array Value) :
    Meets (Builtin.«enumerate.__new__» ⟨[.type "enumerate", .ref l], []⟩) (fun _ R s => SSrc s.heap k l items ∧
      R (.ok (.ret (.ref (eH1 s.heap k l).objs.size))) { s with heap := eH2 s.heap k l }) :=
  .of_wp fun prog w A R s h => by
    obtain ⟨hp, g, d, tk, os⟩ := s; obtain ⟨h1, h⟩ := h
    have hsub := sub_enumerate
    have q1 : ∀ {A' : Around} {E : Value → Shared → Prop} {Q : Value → Shared → Prop}, Q (.ref hp.objs.size) ⟨eH1 hp k l, g, d, tk, os⟩ → wpAny (model prog w) A' (pyIter (.ref l)) Q E ⟨hp, g, d, tk, os⟩ :=
      fun q => iterS (s := ⟨hp, g, d, tk, os⟩) h1 q
    wp_walk using q1
    refine wpAny_stack_any fun st => wpAny_pure ?_
    split
    · rename_i c _ _ _ _ _
      cases (c == Value.type "enumerate")
      · wp_walk using q1
        exact ⟨_, rfl, h⟩
      · wp_walk using q1
        exact ⟨_, rfl, h⟩
    · wp_walk using q1
      exact ⟨_, rfl, h⟩
section
variable {prog : Program} {w : World} {A : Around} {E : Value → Shared → Prop} {s : Shared}
theorem call_enumS {k : Bool} {l : Addr} {items : Array Value} {Q : Value → Shared → Prop} (hL : SSrc s.heap k l items)
    (h : ∀ h', IsEnum h' (s.heap.objs.size + 1) s.heap.objs.size 0 .none → SIt h' k s.heap.objs.size l 0 → h'.objs.size = s.heap.objs.size + 2 →
      (∀ b o, s.heap.get? b = some o → h'.get? b = some o) → Q (.ref (s.heap.objs.size + 1)) { s with heap := h' }) :
    wpAny (model prog w) A (call (.type "enumerate") [.ref l]) Q E s := by
  refine callType_new F.called_enumerate (by decide) (F.typeCall_enumerate_1 _) (F.newCall_enumerate_1 _) (fun obj => F.args_object_init_2 obj _) F.entry_enumerate_new
    (meets_enumS k l items) ⟨hL, ?_⟩
  have hz : (eH1 s.heap k l).objs.size = s.heap.objs.size + 1 := Heap.size_push ..
  show _ ∧ _
  rw [hz]
  have he : IsEnum (eH2 s.heap k l) (s.heap.objs.size + 1) s.heap.objs.size 0 .none := by
    have := Heap.get?_push_size (eH1 s.heap k l)
      (o := { cls := .type "enumerate", data := .fields #[.none, .bool false, .ref s.heap.objs.size, rawInt 0, .none, .none] }) rfl
    rw [hz] at this; exact this
  have hi : (eH2 s.heap k l).get? s.heap.objs.size = some _ := Heap.get?_push_of_some _ (Heap.get?_push_size _ rfl)
  exact ⟨⟨_, he, rfl⟩, h _ he (show SIt _ k _ l 0 by cases k <;> exact ⟨_, hi, rfl, rfl⟩) (by rw [Heap.size_push, hz]) fun b o x => Heap.get?_push_of_some _ (Heap.get?_push_of_some _ x)⟩
end
section
variable {prog : Program} {w : World} {A : Around} {E : Value → Shared → Prop} {s : Shared}
theorem enumS_end {k : Bool} {e it l : Addr} {i : Nat} {items : Array Value} {c : Int} {old : Value} {Q : Option Value → Shared → Prop} (hh : A.in1.handled = none)
    (he : IsEnum s.heap e it c old) (hit : SIt s.heap k it l i) (hl : SSrc s.heap k l items) (hx : items[i]? = none)
    (hQ : ∀ h', Heap.ExtBut it s.heap h' → Q none { s with heap := h' }) : wpAny (model prog w) A (pyNext (.ref e)) Q E s := by
  have hT : s.TypeIs (.ref e) "enumerate" := ⟨_, he, rfl⟩
  unfold pyNext
  refine wpAny_bind (wpAny_attempt (wpAny_callSpecial?_slot (name := Str.ofString "__next__") hT F.slot_enumerate_next
    (wpAny_call_entry F.slot_enumerate_next hT F.entry_enumerate_next ?_ (F.args_enumerate_next_1 _))))
  show wpAny _ _ (field (.ref e) 2 >>= _) _ _ _
  refine wpAny_bind (wpAny_field he rfl (x := .ref it) rfl ?_)
  refine wpAny_bind (nextS_end hh hit hl hx fun h' x he' hx' => ?_)
  obtain ⟨o, ho, hc⟩ := hx'
  refine wpAny_bind (wpAny_isInstance (T := "StopIteration") (b := true) ⟨o, ho, hc⟩ isSubtype_stop ?_)
  exact wpAny_pure (hQ _ he')
end
/-- the items of a list or a tuple that stands, each in a new pair -/
def IteS (K : PySem.W.Frag) (k : Bool) (a : Addr) (ys : List V) : It :=
  ⟨fun i H => SqS K H k a ys ∧ i < ys.length, fun i H v H' => ∃ (T : Addr) (x : V), v = .ref T ∧ H T = none ∧ H' = upd H T (.tup [.int (i : Nat), x]) ∧ ys[i]? = some x, fun i H => SqS K H k a ys ∧ ys.length ≤ i⟩
theorem turn_enumS {P : Program} {w : World} {K : PySem.W.Frag} {elts : List Expr} {kk : Nat} {tpos : Pos} {k : Bool} {a e it : Addr} {ys : List V} (hai : a ≠ it) (hea : e ≠ a) (hne : e ≠ it) :
    Turn P w K (.Tuple elts kk tpos) (IteS K k a ys) [e, it] e (fun i h => (∃ old, IsEnum h e it ((i : Nat) : Int) old) ∧ SIt h k it a i) where
  mem := by simp
  obj := fun i h st b hb => by
    obtain ⟨⟨old, he⟩, hi⟩ := st
    have e' : b = e ∨ b = it := by simpa using hb
    rcases e' with z | z
    · rw [z]; exact ⟨_, he, fun v q => nomatch q⟩
    · rw [z]; exact hi.ob
  keep := fun i h h' st k => let ⟨⟨old, he⟩, hi⟩ := st; ⟨⟨old, k e (by simp) _ he⟩, hi.at fun o q => k it (by simp) o q⟩
  item := by
    intro X hP hw hK hc i pins s σ H E I hf st hg
    subst hP hw hK
    obtain ⟨⟨old, he⟩, hit⟩ := st
    obtain ⟨hq, hx⟩ := hg
    obtain ⟨its, rv, p⟩ := Inv.srcS I hq
    have hl := rv.length
    have hel : e < s.heap.objs.size := Heap.lt_size he
    have hil : it < s.heap.objs.size := hit.lt
    have hh : X.A.in1.handled = none := I.ok.hd hc
    refine wpAny_pyNext_enum_itemD (drawsS hh k it a hai its.toArray) he ⟨hit, p⟩ (by simp; omega) hne (by simp [hne, hea]) fun u h' tk hu ho hst' hT hsz hk => ?_
    obtain ⟨hit', p'⟩ := hst'
    have hx1 : ys[i]? = some (ys[i]'hx) := List.getElem?_eq_getElem hx
    generalize ys[i]'hx = x at hx1
    obtain ⟨u', hu', ru⟩ := rv.get hx1
    have eu : u' = u := by
      have q : its[i]? = some u := by simpa using hu
      rw [q] at hu'; exact (Option.some.inj hu').symm
    subst eu
    refine ⟨_, rfl, wpAny_letOwnedTupleGo_enum (s := { s with heap := h', toks := tk + 1 }) ho fun h'' he' sb => ?_⟩
    have hT2 : h''.get? s.heap.objs.size = some { cls := .type "tuple", data := .seq #[.int i tk, u'] } := (sb.2 _ (Nat.ne_of_gt hel)).trans hT
    have new : ObjOk X.prog X.w (upd H s.heap.objs.size (.tup [.int (i : Nat), x])) h'' s.heap.objs.size (.tup [.int (i : Nat), x]) :=
      ⟨by show 2 ≤ sizeLine; decide, [.int i tk, u'], .cons ⟨_, rfl⟩ (.cons ru .nil), ⟨_, hT2, rfl, _, rfl⟩⟩
    have I1 : L2.Inv X pins σ (upd H s.heap.objs.size (.tup [.int (i : Nat), x])) { s with heap := h'', toks := tk + 1 } :=
      I.turnedNew (t' := tk + 1) (ch := [e, it]) (fun b ob hb q => (sb.2 b (fun z => hb (by simp [z]))).trans (hk b ob (fun z => hb (by simp [z])) (fun z => hb (by simp [z])) q)) hf (Nat.le_refl _) new
    refine ⟨.ref s.heap.objs.size, _, I1, rfl, ⟨_, x, rfl, I.hok.fresh (Nat.le_refl _), rfl, hx1⟩, ⟨⟨u', ?_⟩, hit'.at fun o q => (sb.2 it (Ne.symm hne)).trans q⟩, fun b hb => ?_⟩
    · have e1 : ((i + 1 : Nat) : Int) = (i : Int) + 1 := by omega
      rw [e1]; exact he'
    · have hb' : b < s.heap.objs.size := by
        have e' : b = e ∨ b = it := by simpa using hb
        rcases e' with z | z
        · rw [z]; exact hel
        · rw [z]; exact hil
      rw [upd_ne (Nat.ne_of_lt hb')]
      exact (hf b hb).1
  done := by
    intro X hP hw hK hc i pins s σ H E I hf st hg
    subst hP hw hK
    obtain ⟨⟨old, he⟩, hit⟩ := st
    obtain ⟨hq, hx⟩ := hg
    obtain ⟨its, rv, p⟩ := Inv.srcS I hq
    obtain ⟨f0, f1, f2, f3, f4, f5⟩ := hf it (by simp)
    have hl := rv.length
    have hh : X.A.in1.handled = none := I.ok.hd hc
    exact enumS_end hh he hit p (by simp; omega) fun h' eb => ⟨rfl, I.turned (t' := s.toks) (fun b o hb q => eb b o hb q) f0 f1 f3 f4 f5⟩
  self := fun A i s Q E st h => let ⟨⟨_, he⟩, _⟩ := st; wpAny_pyIter_enum he h
def iEnumS (K : PySem.W.Frag) (ta : TA) : TI := fun σ H R => ta σ H fun vs H1 => ∃ (k : Bool) (a : Addr) (ys : List V), vs = [.ref a] ∧ SqS K H1 k a ys ∧ R (IteS K k a ys) H1
theorem pi_enumS {X : Cx} {e : Expr} {ta : TA} {p pos tpos : Pos} {elts : List Expr} {kk : Nat} (hg : Gl X "enumerate") (hm : X.mg "enumerate" = none) (ha : PA X [e] ta) (hs : starEach [e] X.env = [(false, eval e X.env)] := by rfl) :
    PI X (.Tuple elts kk tpos) (.Call (.Name "enumerate" p) [e] [] pos) (iEnumS X.K ta) := by
  refine ⟨fun pins s σ H R I h => ?_⟩
  refine Call_ (ld_blt I hg hm boot_enumerate (PyProof.Rows.callWith_type1 (thn (ha.run pos pins s σ H _ I h) fun us s1 ⟨vs, H1, I1, r1, q1⟩ => ?_) hs rfl))
  obtain ⟨k, a, ys, ex, hq, q⟩ := q1
  subst ex
  cases r1 with
  | cons r rr =>
    cases rr
    cases r
    obtain ⟨its, rv, p'⟩ := Inv.srcS I1 hq
    have hlt := p'.lt
    refine call_enumS p' fun h' he hit hsz hk => wpAny_pyIter_enum he ?_
    have I2 : L2.Inv X pins σ H1 { s1 with heap := h' } := I1.kept (t' := s1.toks) hk
    refine ⟨s1.heap.objs.size + 1, [s1.heap.objs.size + 1, s1.heap.objs.size], _, _, H1, rfl, I2, turn_enumS (Nat.ne_of_lt hlt) (Nat.ne_of_gt (Nat.lt_succ_of_lt hlt)) (Nat.succ_ne_self _), ⟨⟨.none, he⟩, hit⟩, fun b hb => ?_, q⟩
    have e' : b = s1.heap.objs.size + 1 ∨ b = s1.heap.objs.size := by simpa using hb
    have hle : s1.heap.objs.size ≤ b := by
      rcases e' with z | z
      · rw [z]; exact Nat.le_add_right _ _
      · rw [z]; exact Nat.le_refl _
    exact I1.fpOk hle (I1.hok.fresh hle)
theorem WalkD.enumS {G : GC} {F B : Hp} {k : Bool} {a : Addr} {ys : List V} {ds : List D} (hs : SqS G.K B k a ys) (r : RepAll G F ys ds) : WalkD G F B (IteS G.K k a ys) (enumL ds) where
  goes := fun i H hi s => by
    have w := r.length
    rw [enumL_len] at hi
    exact ⟨hs.keep s, by omega⟩
  stops := fun H s => by
    have w := r.length
    exact ⟨hs.keep s, by rw [enumL_len]; omega⟩
  yields := fun i F2 H2 v H3 hi s1 s2 _ ⟨T, x, e1, e2, e3, g⟩ => by
    subst e1 e3
    obtain ⟨c, t, m⟩ := r.getV g
    exact ⟨_, .tup [.int (i : Nat), c], Grow.mk1 s2 e2, enumL_get t, Rep.tup (.of upd_same) (.cons (.int _) (.cons ((m.mono s1).mono (Grow.mk1 s2 e2).f) .nil))⟩
def enumS : List D → Res (List D)
  | [d] => match seqQ d with
    | some xs => .ok (enumL xs)
    | none => .bad
  | _ => .bad
@[simp] theorem enumS_lst (xs : List D) : enumS [.lst xs] = .ok (enumL xs) := rfl
@[simp] theorem enumS_tup (xs : List D) : enumS [.tup xs] = .ok (enumL xs) := rfl
@[simp] theorem enumS_scr (ns : List Int) : enumS [.scr ns] = .ok (enumL (ns.map D.int)) := rfl
theorem enumS_inv (ds : List D) : (∃ d xs, ds = [d] ∧ seqQ d = some xs ∧ enumS ds = .ok (enumL xs)) ∨ enumS ds = .bad := by
  unfold enumS
  split
  · rename_i d
    split
    · rename_i xs h; exact .inl ⟨d, xs, rfl, h, rfl⟩
    · exact .inr rfl
  · exact .inr rfl
section
variable {X : Cx} {W : Wi} {e : Expr} {p pos tpos : Pos} {elts : List Expr} {kk : Nat}
theorem ri_enumS {fa : Env → Res (List D)} (hm : X.mg "enumerate" = none) (ha : RA X W [e] fa) (hg : Gl X "enumerate" := by rfl) (hs : starEach [e] X.env = [(false, eval e X.env)] := by rfl) :
    RI X W true (.Tuple elts kk tpos) (.Call (.Name "enumerate" p) [e] [] pos) (fun r => fa r >>= enumS) := by
  refine ⟨fun pins s σ H R I ⟨H0, F0, fp, F, r, m, o⟩ => (pi_enumS hg hm ha hs).run pins s σ H R I ⟨H0, F0, fp, F, r, m, o.bind fun F' H' ds gr o2 vs rv => ?_⟩⟩
  rcases enumS_inv ds with ⟨d, xs, rfl, w, e⟩ | e
  · rw [e] at o2
    cases rv with
    | cons r1 rr =>
      cases rr
      obtain ⟨k, a, ys, rfl, q, ra⟩ := seqQ_rep (Same.refl F') r1 w
      exact ⟨k, a, ys, rfl, q.keep gr.sub, o2 F' H' (Grow.refl gr.sub) _ (WalkD.enumS q ra)⟩
  · rw [e] at o2; exact o2.elim
end
end Mir
namespace Mir
variable [Tn]
/-- images that make a map -/
structure OkI (s g : List Int) (im : List (List Int)) : Prop where
  len : im.length = s.length
  el : ∀ y ∈ im, OkE g y
  nil : ∀ p ∈ s.zip im, timesV g p.1 p.2 = zeroV g
theorem el_of_mod {g x : List Int} (h : OkR g) (hl : x.length = g.length) (hm : ∀ i, i < g.length → ∃ z, x.getD i 0 = z % g.getD i 0) : OkE g x := by
  refine ⟨hl, fun p hp => ?_⟩
  obtain ⟨i, hi⟩ := List.getElem?_of_mem hp
  obtain ⟨g1, g2⟩ := List.getElem?_zip_eq_some.mp hi
  have hi' : i < g.length := (List.getElem?_eq_some_iff.mp g2).1
  obtain ⟨z, e⟩ := hm i hi'
  have t := h.get hi'
  have e1 : x.getD i 0 = p.1 := by rw [List.getD_eq_getElem?_getD, g1]; rfl
  have e2 : g.getD i 0 = p.2 := by rw [List.getD_eq_getElem?_getD, g2]; rfl
  rw [← e1, ← e2, e]
  exact ⟨Int.emod_nonneg _ (by omega), Int.emod_lt_of_pos _ (by omega)⟩
theorem times_el {g x : List Int} {n : Int} (h : OkR g) (hl : x.length = g.length) : OkE g (timesV g n x) := el_of_mod h (timesV_len g x n hl) fun i hi => ⟨_, timesV_at hi hl⟩
theorem mod_of_dvd {m a b : Int} (h : m ∣ a - b) : a % m = b % m := Int.emod_eq_emod_iff_emod_sub_eq_zero.mpr (Int.emod_eq_zero_of_dvd h)
/-- the heads -/
def headV (n at_ : Nat) : List Int := (List.range n).map fun k => if k = at_ then 1 else 0
theorem headV_at {n a i : Nat} (hi : i < n) : (headV n a).getD i 0 = if i = a then 1 else 0 := by
  unfold headV
  rw [List.getD_eq_getElem?_getD, List.getElem?_map, List.getElem?_range hi]
  rfl
theorem headV_len (n a : Nat) : (headV n a).length = n := by simp [headV]
theorem OkI.at_ {s g : List Int} {im : List (List Int)} (h : OkI s g im) {i : Nat} (hi : i < s.length) : OkE g (im.getD i []) ∧ timesV g (s.getD i 0) (im.getD i []) = zeroV g := by
  have e1 : s[i]? = some (s.getD i 0) := by rw [List.getD_eq_getElem?_getD, List.getElem?_eq_getElem hi]; rfl
  have e2 : im[i]? = some (im.getD i []) := by rw [List.getD_eq_getElem?_getD, List.getElem?_eq_getElem (by rw [h.len]; exact hi)]; rfl
  exact ⟨h.el _ (List.mem_of_getElem? e2), h.nil (s.getD i 0, im.getD i []) (List.mem_of_getElem? (List.getElem?_zip_eq_some.mpr ⟨e1, e2⟩))⟩
end Mir
namespace Mir
variable [Tn]
theorem el_mod {lo v : List Int} (h : OkE lo v) {p : Nat} (hp : p < lo.length) : v.getD p 0 % lo.getD p 0 = v.getD p 0 := by
  obtain ⟨a, b⟩ := h.get hp
  exact Int.emod_eq_of_lt a b
theorem fold_if {lo : List Int} (c : Nat → Prop) [DecidablePred c] (v : Nat → List Int) : ∀ (l : List Nat) (a : List Int), a.length = lo.length → (∀ k ∈ l, (v k).length = lo.length) →
    (l.foldl (fun f k => if c k then putV lo f (v k) else f) a).length = lo.length ∧
    ∀ p, p < lo.length → a.getD p 0 % lo.getD p 0 = a.getD p 0 → (l.foldl (fun f k => if c k then putV lo f (v k) else f) a).getD p 0 = (a.getD p 0 + (l.map fun k => if c k then (v k).getD p 0 else 0).sum) % lo.getD p 0 := fun l => by
  induction l with
  | nil => intro a ha _; exact ⟨ha, fun p hp e => by simp only [List.foldl_nil, List.map_nil, List.sum_nil, Int.add_zero]; exact e.symm⟩
  | cons k l ih =>
    intro a ha hv
    have hk := hv k List.mem_cons_self
    rw [List.foldl_cons]
    by_cases hc : c k
    · rw [if_pos hc]
      obtain ⟨q1, q2⟩ := ih (putV lo a (v k)) (putV_len ha hk) fun j hj => hv j (List.mem_cons_of_mem _ hj)
      refine ⟨q1, fun p hp e => ?_⟩
      rw [q2 p hp (by rw [putV_at hp ha hk, Int.emod_emod_of_dvd _ (Int.dvd_refl _)]), putV_at hp ha hk, Int.emod_add_emod, List.map_cons, List.sum_cons, if_pos hc, Int.add_assoc]
    · rw [if_neg hc]
      obtain ⟨q1, q2⟩ := ih a ha fun j hj => hv j (List.mem_cons_of_mem _ hj)
      refine ⟨q1, fun p hp e => ?_⟩
      rw [q2 p hp e, List.map_cons, List.sum_cons, if_neg hc, Int.zero_add]
theorem fold_tm {lo : List Int} {α : Type} (w : α → Int) (v : α → List Int) : ∀ (l : List α) (a : List Int), a.length = lo.length → (∀ k ∈ l, (v k).length = lo.length) →
    (l.foldl (fun f k => putV lo f (timesV lo (w k) (v k))) a).length = lo.length ∧
    ∀ p, p < lo.length → a.getD p 0 % lo.getD p 0 = a.getD p 0 → (l.foldl (fun f k => putV lo f (timesV lo (w k) (v k))) a).getD p 0 = (a.getD p 0 + (l.map fun k => w k * (v k).getD p 0).sum) % lo.getD p 0 := fun l => by
  induction l with
  | nil => intro a ha _; exact ⟨ha, fun p hp e => by simp only [List.foldl_nil, List.map_nil, List.sum_nil, Int.add_zero]; exact e.symm⟩
  | cons k l ih =>
    intro a ha hv
    have hk := hv k List.mem_cons_self
    have ht := timesV_len lo (v k) (w k) hk
    rw [List.foldl_cons]
    obtain ⟨q1, q2⟩ := ih (putV lo a (timesV lo (w k) (v k))) (putV_len ha ht) fun j hj => hv j (List.mem_cons_of_mem _ hj)
    refine ⟨q1, fun p hp e => ?_⟩
    rw [q2 p hp (by rw [putV_at hp ha ht, Int.emod_emod_of_dvd _ (Int.dvd_refl _)]), putV_at hp ha ht, Int.emod_add_emod, List.map_cons, List.sum_cons, timesV_at hp hk]
    have e1 : a.getD p 0 + w k * (v k).getD p 0 % lo.getD p 0 + (l.map fun k => w k * (v k).getD p 0).sum = w k * (v k).getD p 0 % lo.getD p 0 + (a.getD p 0 + (l.map fun k => w k * (v k).getD p 0).sum) := by omega
    rw [e1, Int.emod_add_emod]
    congr 1
    omega
/-- a carry's place, before it is rested -/
def carI (up : List Int) (ps : List (List Int)) (L : List ((Nat × Nat) × List Int)) (x y : List Int) (p : Nat) : Int :=
  ((List.range up.length).map fun k => if up.getD k 0 ≤ x.getD k 0 + y.getD k 0 then (ps.getD k []).getD p 0 else 0).sum + (L.map fun q => x.getD q.1.1 0 * y.getD q.1.2 0 * q.2.getD p 0).sum
theorem carryV_mod {lo up x y : List Int} {ps : List (List Int)} {L : List ((Nat × Nat) × List Int)} (h : OkP lo up ps L) : (carryV lo up ps L x y).length = lo.length ∧ ∀ p, p < lo.length → (carryV lo up ps L x y).getD p 0 = carI up ps L x y p % lo.getD p 0 := by
  obtain ⟨a1, a2⟩ := fold_if (lo := lo) (fun k => up.getD k 0 ≤ x.getD k 0 + y.getD k 0) (fun k => ps.getD k []) (List.range up.length) (zeroV lo) (by simp [zeroV]) fun k hk => (h.ps k (List.mem_range.mp hk)).len
  obtain ⟨b1, b2⟩ := fold_tm (lo := lo) (fun q : (Nat × Nat) × List Int => x.getD q.1.1 0 * y.getD q.1.2 0) (fun q => q.2) L _ a1 fun q hq => (h.val q hq).len
  refine ⟨b1, fun p hp => ?_⟩
  have z : (zeroV lo).getD p 0 % lo.getD p 0 = (zeroV lo).getD p 0 := by rw [zeroV_at]; simp
  have e1 := a2 p hp z
  have e2 := b2 p hp (by rw [e1, Int.emod_emod_of_dvd _ (Int.dvd_refl _)])
  unfold carryV
  rw [e2, e1, Int.emod_add_emod, zeroV_at, Int.zero_add]
  rfl
/-- the carries of parts and a relabeling -/
def wholeV (lo up : List Int) (ps : List (List Int)) (L : List ((Nat × Nat) × List Int)) (hf : List Int → List Int) (x y : List Int) : List Int := putV lo (carryV lo up ps L x y) (ownV lo up hf x y)
def OkH (lo up : List Int) (hf : List Int → List Int) : Prop := ∀ x, OkE up x → OkE lo (hf x)
theorem own_mod {lo up x y : List Int} {hf : List Int → List Int} (g : OkR up) (hh : OkH lo up hf) (hx : OkE up x) (hy : OkE up y) : (ownV lo up hf x y).length = lo.length ∧ ∀ p, p < lo.length → (ownV lo up hf x y).getD p 0 = ((hf x).getD p 0 + (hf y).getD p 0 - (hf (putV up x y)).getD p 0) % lo.getD p 0 := by
  have a := (hh x hx).len
  have b := (hh y hy).len
  have c := (hh _ (put_el g hx.len hy.len)).len
  have tl := timesV_len lo _ (-1) c
  refine ⟨putV_len (putV_len a b) tl, fun p hp => ?_⟩
  unfold ownV
  rw [putV_at hp (putV_len a b) tl, putV_at hp a b, timesV_at hp c, Int.emod_add_emod]
  have e1 : (hf x).getD p 0 + (hf y).getD p 0 + -1 * (hf (putV up x y)).getD p 0 % lo.getD p 0 = -1 * (hf (putV up x y)).getD p 0 % lo.getD p 0 + ((hf x).getD p 0 + (hf y).getD p 0) := by omega
  rw [e1, Int.emod_add_emod]
  congr 1
  omega
theorem whole_mod {lo up x y : List Int} {ps : List (List Int)} {L : List ((Nat × Nat) × List Int)} {hf : List Int → List Int} (h : OkP lo up ps L) (g : OkR up) (hh : OkH lo up hf) (hx : OkE up x) (hy : OkE up y) : (wholeV lo up ps L hf x y).length = lo.length ∧ ∀ p, p < lo.length →
    (wholeV lo up ps L hf x y).getD p 0 = (carI up ps L x y p + ((hf x).getD p 0 + (hf y).getD p 0 - (hf (putV up x y)).getD p 0)) % lo.getD p 0 := by
  obtain ⟨a1, a2⟩ := carryV_mod (x := x) (y := y) h
  obtain ⟨b1, b2⟩ := own_mod g hh hx hy
  refine ⟨putV_len a1 b1, fun p hp => ?_⟩
  unfold wholeV
  rw [putV_at hp a1 b1, a2 p hp, b2 p hp, ← Int.add_emod]
/-- carries that keep the rule for three -/
def Three (lo up : List Int) (c : List Int → List Int → List Int) : Prop := ∀ x y z, OkE up x → OkE up y → OkE up z → putV lo (c x y) (c (putV up x y) z) = putV lo (c y z) (c x (putV up y z))
/-- odd parts that both their rounds bring to nought -/
def OkQ (lo up : List Int) (L : List ((Nat × Nat) × List Int)) : Prop := ∀ q ∈ L, timesV lo (up.getD q.1.1 0) q.2 = zeroV lo ∧ timesV lo (up.getD q.1.2 0) q.2 = zeroV lo
theorem dvd_sums {α : Type} {m : Int} (A B C E : α → Int) : ∀ l : List α, (∀ a ∈ l, m ∣ (A a + B a) - (C a + E a)) → m ∣ ((l.map A).sum + (l.map B).sum) - ((l.map C).sum + (l.map E).sum)
  | [], _ => by simp
  | a :: l, h => by
    have ih := dvd_sums A B C E l fun b hb => h b (List.mem_cons_of_mem _ hb)
    have q := h a List.mem_cons_self
    simp only [List.map_cons, List.sum_cons]
    have e : (A a + (l.map A).sum + (B a + (l.map B).sum)) - (C a + (l.map C).sum + (E a + (l.map E).sum)) = ((A a + B a) - (C a + E a)) + (((l.map A).sum + (l.map B).sum) - ((l.map C).sum + (l.map E).sum)) := by omega
    rw [e]
    exact Int.dvd_add q ih
theorem mod_small {a n : Int} (h0 : 0 ≤ a) (h1 : a < n + n) (hn : 0 < n) : a % n = if n ≤ a then a - n else a := by
  split
  · have e : a = (a - n) + n * 1 := by omega
    rw [e, Int.add_mul_emod_self_left, Int.emod_eq_of_lt (by omega) (by omega)]
    omega
  · exact Int.emod_eq_of_lt h0 (by omega)
theorem digit {x y z n a : Int} (x0 : 0 ≤ x) (x1 : x < n) (y0 : 0 ≤ y) (y1 : y < n) (z0 : 0 ≤ z) (z1 : z < n) :
    ((if n ≤ x + y then a else 0) + (if n ≤ (x + y) % n + z then a else 0)) = ((if n ≤ y + z then a else 0) + (if n ≤ x + (y + z) % n then a else 0)) := by
  rw [mod_small (a := x + y) (by omega) (by omega) (by omega), mod_small (a := y + z) (by omega) (by omega) (by omega)]
  by_cases h1 : n ≤ x + y <;> by_cases h2 : n ≤ y + z <;> simp only [h1, h2, if_true, if_false]
  · by_cases h3 : n ≤ x + y - n + z
    · rw [if_pos h3, if_pos (by omega)]
    · rw [if_neg h3, if_neg (by omega)]
  · rw [if_neg (by omega), if_pos (by omega)]; omega
  · rw [if_pos (by omega), if_neg (by omega)]; omega
  · by_cases h3 : n ≤ x + y + z
    · rw [if_pos h3, if_pos (by omega)]
    · rw [if_neg h3, if_neg (by omega)]
theorem pair_dvd {m n k x y z x' y' z' a : Int} (h1 : m ∣ n * a) (h2 : m ∣ k * a) : m ∣ (x * y' * a + (x + y) % n * z' * a) - (y * z' * a + x * ((y' + z') % k) * a) := by
  obtain ⟨u, hu⟩ := h1
  obtain ⟨v, hv⟩ := h2
  have e1 := Int.emod_add_mul_ediv (x + y) n
  have e2 := Int.emod_add_mul_ediv (y' + z') k
  generalize (x + y) / n = c at e1
  generalize (y' + z') / k = d at e2
  have f1 : (x + y) % n = x + y - n * c := by omega
  have f2 : (y' + z') % k = y' + z' - k * d := by omega
  rw [f1, f2]
  have g1 : (x + y - n * c) * z' * a = x * z' * a + y * z' * a - m * (u * (c * z')) := by
    rw [← Int.mul_assoc m u, ← hu, Int.sub_mul, Int.add_mul, Int.sub_mul, Int.add_mul]
    have : n * c * z' * a = n * a * (c * z') := by simp only [Int.mul_assoc, Int.mul_comm, Int.mul_left_comm]
    omega
  have g2 : x * (y' + z' - k * d) * a = x * y' * a + x * z' * a - m * (v * (d * x)) := by
    rw [← Int.mul_assoc m v, ← hv, Int.mul_sub, Int.mul_add, Int.sub_mul, Int.add_mul]
    have : x * (k * d) * a = k * a * (d * x) := by simp only [Int.mul_assoc, Int.mul_comm, Int.mul_left_comm]
    omega
  rw [g1, g2]
  refine ⟨v * (d * x) - u * (c * z'), ?_⟩
  rw [Int.mul_sub]
  omega
theorem dvd_join {m a1 a2 a3 a4 b1 b2 b3 b4 : Int} (d1 : m ∣ a1 + a2 - (a3 + a4)) (d2 : m ∣ b1 + b2 - (b3 + b4)) : m ∣ a1 + b1 + (a2 + b2) - (a3 + b3 + (a4 + b4)) := by
  have := Int.dvd_add d1 d2
  have e : a1 + b1 + (a2 + b2) - (a3 + b3 + (a4 + b4)) = a1 + a2 - (a3 + a4) + (b1 + b2 - (b3 + b4)) := by omega
  rw [e]
  exact this
theorem car_three {lo up x y z : List Int} {ps : List (List Int)} {L : List ((Nat × Nat) × List Int)} (h : OkP lo up ps L) (k : OkQ lo up L) (hx : OkE up x) (hy : OkE up y) (hz : OkE up z) {p : Nat} (hp : p < lo.length) :
    lo.getD p 0 ∣ (carI up ps L x y p + carI up ps L (putV up x y) z p) - (carI up ps L y z p + carI up ps L x (putV up y z) p) := by
  have d1 := dvd_sums (m := lo.getD p 0) (fun k => if up.getD k 0 ≤ x.getD k 0 + y.getD k 0 then (ps.getD k []).getD p 0 else 0) (fun k => if up.getD k 0 ≤ (putV up x y).getD k 0 + z.getD k 0 then (ps.getD k []).getD p 0 else 0)
    (fun k => if up.getD k 0 ≤ y.getD k 0 + z.getD k 0 then (ps.getD k []).getD p 0 else 0) (fun k => if up.getD k 0 ≤ x.getD k 0 + (putV up y z).getD k 0 then (ps.getD k []).getD p 0 else 0) (List.range up.length) (fun k hk => by
      have hk := List.mem_range.mp hk
      obtain ⟨x0, x1⟩ := hx.get hk
      obtain ⟨y0, y1⟩ := hy.get hk
      obtain ⟨z0, z1⟩ := hz.get hk
      have e := digit (a := (ps.getD k []).getD p 0) x0 x1 y0 y1 z0 z1
      simp only [putV_at hk hx.len hy.len, putV_at hk hy.len hz.len]
      rw [e, Int.sub_self]
      exact Int.dvd_zero _)
  have d2 := dvd_sums (m := lo.getD p 0) (fun q : (Nat × Nat) × List Int => x.getD q.1.1 0 * y.getD q.1.2 0 * q.2.getD p 0) (fun q => (putV up x y).getD q.1.1 0 * z.getD q.1.2 0 * q.2.getD p 0)
    (fun q => y.getD q.1.1 0 * z.getD q.1.2 0 * q.2.getD p 0) (fun q => x.getD q.1.1 0 * (putV up y z).getD q.1.2 0 * q.2.getD p 0) L (fun q hq => by
      obtain ⟨i1, i2⟩ := h.at_ hq
      obtain ⟨k1, k2⟩ := k q hq
      have l1 := (h.val q hq).len
      have c1 := congrArg (fun l => l.getD p 0) k1
      have c2 := congrArg (fun l => l.getD p 0) k2
      simp only [zeroV_at, timesV_at hp l1] at c1 c2
      simp only [putV_at (show q.1.1 < up.length by omega) hx.len hy.len, putV_at i2 hy.len hz.len]
      exact pair_dvd (x' := 0) (z := 0) (Int.dvd_of_emod_eq_zero c1) (Int.dvd_of_emod_eq_zero c2))
  unfold carI
  exact dvd_join d1 d2
theorem putV_assoc {rs x y z : List Int} (h1 : x.length = rs.length) (h2 : y.length = rs.length) (h3 : z.length = rs.length) : putV rs (putV rs x y) z = putV rs x (putV rs y z) := by
  have l1 := putV_len h1 h2
  have l2 := putV_len h2 h3
  refine ext_getD (by rw [putV_len l1 h3, putV_len h1 l2]) fun i hi => ?_
  rw [putV_len h1 l2] at hi
  rw [putV_at hi l1 h3, putV_at hi h1 h2, putV_at hi h1 l2, putV_at hi h2 h3, Int.emod_add_emod, Int.add_emod_emod, Int.add_assoc]
theorem whole_three {lo up : List Int} {ps : List (List Int)} {L : List ((Nat × Nat) × List Int)} {hf : List Int → List Int} (h : OkP lo up ps L) (k : OkQ lo up L) (g : OkR up) (hh : OkH lo up hf) : Three lo up (wholeV lo up ps L hf) := fun x y z hx hy hz => by
  have hxy := put_el g hx.len hy.len
  have hyz := put_el g hy.len hz.len
  obtain ⟨a1, a2⟩ := whole_mod h g hh hx hy
  obtain ⟨b1, b2⟩ := whole_mod h g hh hxy hz
  obtain ⟨c1, c2⟩ := whole_mod h g hh hy hz
  obtain ⟨d1, d2⟩ := whole_mod h g hh hx hyz
  refine ext_getD (by rw [putV_len a1 b1, putV_len c1 d1]) fun p hp => ?_
  rw [putV_len c1 d1] at hp
  rw [putV_at hp a1 b1, putV_at hp c1 d1, a2 p hp, b2 p hp, c2 p hp, d2 p hp, ← Int.add_emod, ← Int.add_emod]
  apply mod_of_dvd
  have q := car_three h k hx hy hz hp
  rw [putV_assoc hx.len hy.len hz.len]
  generalize carI up ps L x y p = A at *
  generalize carI up ps L (putV up x y) z p = B at *
  generalize carI up ps L y z p = C at *
  generalize carI up ps L x (putV up y z) p = E at *
  have e : ∀ u v w s t r : Int, A + (u + v - w) + (B + (w + s - t)) - (C + (v + s - r) + (E + (u + r - t))) = (A + B) - (C + E) := fun u v w s t r => by omega
  rw [e]
  exact q
theorem head_el {up : List Int} (h : OkR up) (i : Nat) : OkE up (headV up.length i) := el_of_mod h (headV_len _ _) fun j hj => by
  have t := h.get hj
  refine ⟨if j = i then 1 else 0, ?_⟩
  rw [headV_at hj]
  by_cases e : j = i
  · rw [if_pos e, Int.emod_eq_of_lt (by omega) (by omega)]
  · rw [if_neg e]; simp
theorem mul_head {up : List Int} {i j k : Nat} (hj : j < up.length) (hk : (k : Int) ≤ up.getD i 0) (g : OkR up) : (timesV up (k : Nat) (headV up.length i)).getD j 0 = if j = i then (k : Int) % up.getD i 0 else 0 := by
  rw [timesV_at hj (headV_len _ _), headV_at hj]
  by_cases e : j = i
  · subst e; simp
  · simp [e]
theorem times_nil {up : List Int} (g : OkR up) (i : Nat) (hi : i < up.length) : timesV up (up.getD i 0) (headV up.length i) = zeroV up := ext_getD (by rw [timesV_len up _ _ (headV_len _ _)]; simp [zeroV]) fun j hj => by
  have hj : j < up.length := by simpa [zeroV] using hj
  rw [zeroV_at, timesV_at hj (headV_len _ _), headV_at hj]
  by_cases e : j = i
  · subst e; simp
  · simp [e]
theorem putV_comm {rs x y : List Int} (h1 : x.length = rs.length) (h2 : y.length = rs.length) : putV rs x y = putV rs y x := ext_getD (by rw [putV_len h1 h2, putV_len h2 h1]) fun i hi => by
  rw [putV_len h2 h1] at hi
  rw [putV_at hi h1 h2, putV_at hi h2 h1, Int.add_comm]
theorem put_zero {lo v : List Int} (h : OkE lo v) : putV lo v (zeroV lo) = v := by
  have lz : (zeroV lo).length = lo.length := by simp [zeroV]
  refine ext_getD (by rw [putV_len h.len lz, h.len]) fun i hi => ?_
  rw [h.len] at hi
  rw [putV_at hi h.len lz, zeroV_at, Int.add_zero, el_mod h hi]
theorem put_back {lo v : List Int} (h : v.length = lo.length) : putV lo v (timesV lo (-1) v) = zeroV lo := by
  have t := timesV_len lo v (-1) h
  refine ext_getD (by rw [putV_len h t]; simp [zeroV]) fun i hi => ?_
  have hi : i < lo.length := by simpa [zeroV] using hi
  rw [putV_at hi h t, timesV_at hi h, zeroV_at, Int.add_emod_emod]
  have : v.getD i 0 + -1 * v.getD i 0 = 0 := by omega
  rw [this]; simp
end Mir
namespace Mir
open PySem PySem.Spec PyProof.Rows L2
variable [Tn]
section
variable {G : GC} {J : L2.St → Prop} {H0 F0 F1 H1 : Hp} {fp : Nat → List Addr} {σ : L2.St} {r : Env}
/-- and taken up again -/
theorem MS.take (hJ : ∀ σ, J σ) (m : MS G J H0 F0 fp F1 σ H1 r) {i : Nat} {v : V} {s : Shape} {o : D} (hv : σ[i]? = some (some v)) (ho : r[i]? = some (.ow s o)) {fp2 : Nat → List Addr} {F2 H2 : Hp} {σ2 : L2.St} {r2 : Env} (m2 : MS G (fun σ => σ[i]? = some (some v)) H1 F1 fp2 F2 σ2 H2 r2) :
    MS G J H0 F0 (fun j => if j = i then fp i else fp2 j) F2 σ2 H2 (r2.set i (.ow s o)) := by
  obtain ⟨⟨w, hw, ow⟩, fr⟩ := m.ow i s o ho
  rw [hv] at hw
  cases hw
  have th := fun a (ha : a ∈ fp i) => ow.there a ha
  have nf : ∀ a ∈ fp i, F2 a = none := fun a ha => by
    cases e : F2 a with
    | none => rfl
    | some u =>
      rcases m2.new a u e with z | z
      · have := (th a ha).1
        rw [this] at z; cases z
      · obtain ⟨u2, e2⟩ := (th a ha).2
        rw [z] at e2; cases e2
  have hi2 : ∀ a ∈ fp i, H1 a ≠ none := fun a ha z => by
    obtain ⟨u2, e2⟩ := (th a ha).2
    rw [z] at e2; cases e2
  refine ⟨hJ _, m.s0.trans m2.s0, m.f0.trans m2.f0, m2.sub, fun a u e => ?_, by simpa using m2.len, fun j d h => ?_, fun j t d h => ?_, fun j k t u d e ne h1 h2 => ?_, m.t0⟩
  · rcases m2.new a u e with z | z
    · exact m.new a u z
    · exact .inr (m.s0.free z)
  · rcases get_set_slot h with ⟨_, x, _⟩ | ⟨_, h⟩
    · cases x
    · exact m2.sh j d h
  · rcases get_set_slot h with ⟨e1, x, _⟩ | ⟨ne, h⟩
    · subst e1
      cases x
      refine ⟨⟨v, m2.jo, ?_⟩, ?_⟩
      · show Own G F2 H2 s v o (if i = i then fp i else fp2 i)
        rw [if_pos rfl]
        exact ow.keep ⟨fun a ha u e => m2.s0.at' a u e fun ps z => ow.nt a ha ps (z ▸ e), m2.f0, fun a ha _ => nf a ha⟩
      · show ∀ a ∈ (if i = i then fp i else fp2 i), H0 a = none
        rw [if_pos rfl]
        exact fr
    · have ne' : ¬ j = i := fun z => ne z.symm
      obtain ⟨⟨w, q1, q2⟩, q3⟩ := m2.ow j t d h
      refine ⟨⟨w, q1, ?_⟩, ?_⟩
      · show Own G F2 H2 t w d (if j = i then fp i else fp2 j)
        rw [if_neg ne']
        exact q2
      · show ∀ a ∈ (if j = i then fp i else fp2 j), H0 a = none
        rw [if_neg ne']
        exact fun a ha => m.s0.free (q3 a ha)
  · show ∀ a ∈ (if j = i then fp i else fp2 j), a ∉ (if k = i then fp i else fp2 k)
    rcases get_set_slot h1 with ⟨e1, _, _⟩ | ⟨n1, h1⟩
    · subst e1
      rcases get_set_slot h2 with ⟨e2, _, _⟩ | ⟨n2, h2⟩
      · exact absurd e2 ne
      · have n2' : ¬ k = i := fun z => n2 z.symm
        rw [if_pos rfl, if_neg n2']
        exact fun a ha hb => hi2 a ha ((m2.ow k u e h2).2 a hb)
    · have n1' : ¬ j = i := fun z => n1 z.symm
      rw [if_neg n1']
      rcases get_set_slot h2 with ⟨e2, _, _⟩ | ⟨n2, h2⟩
      · subst e2
        rw [if_pos rfl]
        exact fun a ha hb => hi2 a hb ((m2.ow j t d h1).2 a ha)
      · have n2' : ¬ k = i := fun z => n2 z.symm
        rw [if_neg n2']
        exact m2.ap j k t u d e ne h1 h2
end
section
variable {X : Cx} {W : Wi} {k : Kd}
abbrev Wi.pin (W : Wi) (i : Nat) (v : V) : Wi := ⟨W.w, fun σ => σ[i]? = some (some v)⟩
end
end Mir
namespace Mir
open PySem PySem.Spec PyProof.Rows L2
variable [Tn]
def slotS : Shape → D → Slot
  | .sh, d => .sh d
  | s, d => .ow s d
def nameO (i : Nat) (s : Shape) (d : D) (r : Env) : Res Env := .ok (r.set i (slotS s d))
@[simp] theorem nameO_sh (i : Nat) (d : D) (r : Env) : nameO i .sh d r = .ok (r.set i (.sh d)) := rfl
@[simp] theorem nameO_flat (i : Nat) (d : D) (r : Env) : nameO i .flat d r = .ok (r.set i (.ow .flat d)) := rfl
end Mir
namespace Mir
open PySem PySem.Spec PyProof.Rows L2
variable [Tn]
def IsTI (h : Heap) (v : Value) (ns : List Int) : Prop := ∃ a o items n, v = Value.ref a ∧ h.get? a = some o ∧ o.cls = .type "tuple" ∧ o.data = .seq items n ∧ IntsAre items.toList ns
end Mir
namespace Mir
open PySem PySem.Spec PyProof.Rows L2
variable [Tn]
/-- the items of vs hold the rows ks -/
inductive AllTI (h : Heap) : List Value → List (List Int) → Prop
  | nil : AllTI h [] []
  | cons {v : Value} {k : List Int} {vs : List Value} {ks : List (List Int)} : IsTI h v k → AllTI h vs ks → AllTI h (v :: vs) (k :: ks)
theorem AllTI.len {h : Heap} : ∀ {vs : List Value} {ks : List (List Int)}, AllTI h vs ks → vs.length = ks.length
  | _, _, .nil => rfl
  | _, _, .cons _ t => by rw [List.length_cons, List.length_cons, t.len]
end Mir
namespace Mir
open PySem PySem.Spec PyProof.Rows L2
variable [Tn]
theorem set_len (x : List Int) (i : Nat) (k : Int) : (x.set i k).length = x.length := List.length_set
theorem set_at {x : List Int} {i j : Nat} {k : Int} (hi : i < x.length) : (x.set i k).getD j 0 = if j = i then k else x.getD j 0 := by
  rw [List.getD_eq_getElem?_getD, List.getElem?_set]
  by_cases h : i = j
  · subst h
    rw [if_pos rfl, if_pos hi, if_pos rfl]
    rfl
  · rw [if_neg h, if_neg (fun z => h z.symm), List.getD_eq_getElem?_getD]
theorem set_el {up x : List Int} {i : Nat} {k : Int} (hx : OkE up x) (hi : i < up.length) (h0 : 0 ≤ k) (h1 : k < up.getD i 0) : OkE up (x.set i k) := by
  have hl := hx.len
  refine ⟨by rw [set_len, hl], fun p hp => ?_⟩
  obtain ⟨j, hj, e⟩ := List.getElem_of_mem hp
  rw [List.length_zip, set_len, hl] at hj
  have hj' : j < up.length := by omega
  rw [List.getElem_zip] at e
  have e1 : p.1 = (x.set i k).getD j 0 := by
    rw [← e, List.getD_eq_getElem?_getD, List.getElem?_eq_getElem (by rw [set_len]; omega)]
    rfl
  have e2 : p.2 = up.getD j 0 := by
    rw [← e, List.getD_eq_getElem?_getD, List.getElem?_eq_getElem hj']
    rfl
  rw [e1, e2, set_at (by omega)]
  split
  · rename_i q; subst q; exact ⟨h0, h1⟩
  · exact hx.get hj'
theorem set_same {x : List Int} {i : Nat} (hi : i < x.length) : x.set i (x.getD i 0) = x := ext_getD (set_len _ _ _) fun j hj => by
  rw [set_at hi]
  split
  · rename_i q; rw [q]
  · rfl
theorem set_set (x : List Int) (i : Nat) (k l : Int) : (x.set i k).set i l = x.set i l := by simp
/-- one more at the i-th place -/
theorem set_head {up x : List Int} {i : Nat} {k : Int} (g : OkR up) (hx : OkE up x) (hi : i < up.length) (h0 : 0 ≤ k) (h1 : k + 1 < up.getD i 0) : putV up (x.set i k) (headV up.length i) = x.set i (k + 1) := by
  have hl := hx.len
  have l1 : (x.set i k).length = up.length := by rw [set_len, hl]
  refine ext_getD (by rw [putV_len l1 (headV_len _ _), set_len, hl]) fun j hj => ?_
  rw [set_len, hl] at hj
  rw [putV_at hj l1 (headV_len _ _), set_at (by omega), set_at (by omega), headV_at hj]
  by_cases q : j = i
  · subst q
    rw [if_pos rfl, if_pos rfl, if_pos rfl, Int.emod_eq_of_lt (by omega) h1]
  · rw [if_neg q, if_neg q, if_neg q]
    have := hx.get hj
    rw [Int.emod_eq_of_lt (by omega) (by omega)]
    omega
/-- so many at the i-th place -/
theorem set_heads {up x : List Int} {i k : Nat} (g : OkR up) (hx : OkE up x) (hi : i < up.length) (hz : x.getD i 0 = 0) (h1 : (k : Int) < up.getD i 0) : putV up x (timesV up (k : Nat) (headV up.length i)) = x.set i (k : Nat) := by
  have hl := hx.len
  have tl := timesV_len up (headV up.length i) (k : Nat) (headV_len _ _)
  refine ext_getD (by rw [putV_len hl tl, set_len, hl]) fun j hj => ?_
  rw [set_len, hl] at hj
  rw [putV_at hj hl tl, set_at (by omega), mul_head hj (by omega) g]
  have := hx.get hj
  by_cases q : j = i
  · subst q
    rw [if_pos rfl, if_pos rfl, hz, Int.zero_add, Int.emod_emod_of_dvd _ (Int.dvd_refl _), Int.emod_eq_of_lt (by omega) h1]
  · rw [if_neg q, if_neg q, Int.add_zero, Int.emod_eq_of_lt this.1 this.2]
abbrev Cg (m a b : Int) : Prop := ∃ q, a = b + m * q
/-- what is known of two carries' difference and the labels, at one place -/
structure LabC (up : List Int) (m : Int) (d : List Int → List Int → Int) (H : List Int → Int) (lab : Nat → Int) : Prop where
  coc : ∀ x y z, OkE up x → OkE up y → OkE up z → Cg m (d x y + d (putV up x y) z) (d y z + d x (putV up y z))
  h0 : Cg m (H (zeroV up)) (d (zeroV up) (zeroV up))
  hs : ∀ i x, i < up.length → OkE up x → (∀ j, i < j → x.getD j 0 = 0) → x.getD i 0 + 1 < up.getD i 0 → Cg m (H (putV up x (headV up.length i))) (H x + lab i - d x (headV up.length i))
  wt : ∀ i, i < up.length → Cg m (up.getD i 0 * lab i) (((List.range (up.getD i 0).toNat).map fun k : Nat => d (timesV up (k : Nat) (headV up.length i)) (headV up.length i)).sum)
  od : ∀ i j, i < j → j < up.length → Cg m (d (headV up.length i) (headV up.length j)) (d (headV up.length j) (headV up.length i))
section
variable {up : List Int} {m : Int} {d : List Int → List Int → Int} {H : List Int → Int} {lab : Nat → Int}
def dfD (up : List Int) (d : List Int → List Int → Int) (H : List Int → Int) (x y : List Int) : Int := d x y - (H x + H y - H (putV up x y))
theorem LabC.D_coc (L : LabC up m d H lab) (g : OkR up) {x y z : List Int} (hx : OkE up x) (hy : OkE up y) (hz : OkE up z) : Cg m (dfD up d H x y + dfD up d H (putV up x y) z) (dfD up d H y z + dfD up d H x (putV up y z)) := by
  obtain ⟨q, e⟩ := L.coc x y z hx hy hz
  refine ⟨q, ?_⟩
  unfold dfD
  rw [putV_assoc hx.len hy.len hz.len]
  omega
theorem put0 {x : List Int} (hx : OkE up x) : putV up x (zeroV up) = x := put_zero hx
theorem put0l {x : List Int} (g : OkR up) (hx : OkE up x) : putV up (zeroV up) x = x := by rw [putV_comm (zero_el g).len hx.len, put_zero hx]
theorem LabC.D00 (L : LabC up m d H lab) (g : OkR up) : Cg m (dfD up d H (zeroV up) (zeroV up)) 0 := by
  obtain ⟨q, e⟩ := L.h0
  refine ⟨-q, ?_⟩
  unfold dfD
  rw [put0 (zero_el g), Int.mul_neg]
  omega
theorem LabC.D0y (L : LabC up m d H lab) (g : OkR up) {y : List Int} (hy : OkE up y) : Cg m (dfD up d H (zeroV up) y) 0 := by
  have z := zero_el g
  obtain ⟨q, e⟩ := L.D_coc g z z hy
  obtain ⟨q2, e2⟩ := L.D00 g
  rw [put0 z, put0l g hy] at e
  refine ⟨q2 - q, ?_⟩
  rw [Int.mul_sub]
  omega
theorem LabC.Dx0 (L : LabC up m d H lab) (g : OkR up) {x : List Int} (hx : OkE up x) : Cg m (dfD up d H x (zeroV up)) 0 := by
  have z := zero_el g
  obtain ⟨q, e⟩ := L.D_coc g hx z z
  obtain ⟨q2, e2⟩ := L.D00 g
  rw [put0 z, put0 hx] at e
  refine ⟨q2 + q, ?_⟩
  rw [Int.mul_add]
  omega
theorem LabC.H_head (L : LabC up m d H lab) (g : OkR up) {i : Nat} (hi : i < up.length) : Cg m (H (headV up.length i)) (lab i) := by
  have z := zero_el g
  have he := head_el g i
  have n2 := g.get hi
  obtain ⟨q, e⟩ := L.hs i (zeroV up) hi z (fun j _ => zeroV_at up j) (by rw [zeroV_at]; omega)
  obtain ⟨q2, e2⟩ := L.D0y g he
  rw [put0l g he] at e
  unfold dfD at e2
  rw [put0l g he] at e2
  refine ⟨q - q2, ?_⟩
  rw [Int.mul_sub]
  omega
/-- the places behind i are nought -/
def Low (i : Nat) (x : List Int) : Prop := ∀ j, i < j → x.getD j 0 = 0
theorem LabC.step1 (L : LabC up m d H lab) (g : OkR up) {i : Nat} (hi : i < up.length) {x : List Int} (hx : OkE up x) (hl : Low i x) (h : x.getD i 0 + 1 < up.getD i 0) : Cg m (dfD up d H x (headV up.length i)) 0 := by
  obtain ⟨q, e⟩ := L.hs i x hi hx hl h
  obtain ⟨q2, e2⟩ := L.H_head g hi
  refine ⟨q - q2, ?_⟩
  unfold dfD
  rw [e, e2, Int.mul_sub]
  omega
theorem low_zero (i : Nat) : Low i (zeroV up) := fun j _ => zeroV_at up j
theorem low_set {x : List Int} {i : Nat} {k : Int} (hi : i < x.length) (h : Low i x) : Low i (x.set i k) := fun j hj => by
  rw [set_at hi, if_neg (by omega)]
  exact h j hj
theorem LabC.sums (L : LabC up m d H lab) (g : OkR up) {i : Nat} (hi : i < up.length) : ∀ k : Nat, (k : Int) < up.getD i 0 → Cg m (H ((zeroV up).set i (k : Nat)))
    (H (zeroV up) + (k : Nat) * lab i - ((List.range k).map fun k : Nat => d (timesV up (k : Nat) (headV up.length i)) (headV up.length i)).sum)
  | 0, _ => by
    have e : (zeroV up).set i ((0 : Nat) : Int) = zeroV up := by
      have := set_same (x := zeroV up) (i := i) (by unfold zeroV; simpa using hi)
      rw [zeroV_at] at this
      exact this
    rw [e]
    exact ⟨0, by simp⟩
  | k + 1, hk => by
    have z := zero_el g
    have zl : i < (zeroV up).length := by rw [z.len]; exact hi
    obtain ⟨q, e⟩ := LabC.sums L g hi k (by omega)
    have hx := set_el z hi (k := (k : Nat)) (by omega) (by omega)
    obtain ⟨q2, e2⟩ := L.hs i _ hi hx (low_set zl (low_zero i)) (by rw [set_at zl, if_pos rfl]; omega)
    rw [set_head g z hi (by omega) (by omega)] at e2
    have sh := set_heads (k := k) g z hi (zeroV_at up i) (by omega)
    rw [put0l g (times_el g (headV_len _ _))] at sh
    refine ⟨q2 + q, ?_⟩
    rw [List.range_succ, List.map_append, List.sum_append]
    simp only [List.map_cons, List.map_nil, List.sum_cons, List.sum_nil]
    rw [sh]
    show H ((zeroV up).set i ((k + 1 : Nat) : Int)) = _
    rw [show ((k + 1 : Nat) : Int) = (k : Int) + 1 by omega, e2, e, Int.mul_add, Int.add_mul]
    simp
    omega
/-- the last turn round -/
theorem LabC.wrap0 (L : LabC up m d H lab) (g : OkR up) {i : Nat} (hi : i < up.length) : Cg m (dfD up d H ((zeroV up).set i (up.getD i 0 - 1)) (headV up.length i)) 0 := by
  have z := zero_el g
  have n2 := g.get hi
  obtain ⟨n, hn⟩ : ∃ n : Nat, up.getD i 0 = (n : Int) + 1 := ⟨(up.getD i 0 - 1).toNat, by omega⟩
  obtain ⟨q, e⟩ := L.sums g hi n (by omega)
  obtain ⟨q2, e2⟩ := L.wt i hi
  obtain ⟨q3, e3⟩ := L.H_head g hi
  have sh := set_heads (k := n) g z hi (zeroV_at up i) (by omega)
  rw [put0l g (times_el g (headV_len _ _))] at sh
  have e4 : up.getD i 0 - 1 = (n : Int) := by omega
  have tn : (up.getD i 0).toNat = n + 1 := by omega
  rw [tn, List.range_succ, List.map_append, List.sum_append] at e2
  simp only [List.map_cons, List.map_nil, List.sum_cons, List.sum_nil] at e2
  rw [sh, hn, Int.add_mul] at e2
  have back : putV up ((zeroV up).set i (n : Int)) (headV up.length i) = zeroV up := by
    rw [← sh, times_succ (headV_len _ _), show ((n + 1 : Nat) : Int) = up.getD i 0 by omega, times_nil g i hi]
  rw [e4]
  unfold dfD
  rw [back]
  refine ⟨-q2 - q - q3, ?_⟩
  rw [Int.mul_sub, Int.mul_sub, Int.mul_neg, e, e3]
  omega
theorem LabC.base (L : LabC up m d H lab) (g : OkR up) {i : Nat} (hi : i < up.length) {b : List Int} (hb : OkE up b) (hl : Low i b) (h0 : b.getD i 0 = 0) : ∀ k : Nat, (k : Int) < up.getD i 0 → Cg m (dfD up d H b ((zeroV up).set i (k : Nat))) 0
  | 0, _ => by
    have e : (zeroV up).set i ((0 : Nat) : Int) = zeroV up := by
      have := set_same (x := zeroV up) (i := i) (by unfold zeroV; simpa using hi)
      rw [zeroV_at] at this
      exact this
    rw [e]
    exact L.Dx0 g hb
  | k + 1, hk => by
    have z := zero_el g
    have bl : i < b.length := by rw [hb.len]; exact hi
    have zl : i < (zeroV up).length := by rw [z.len]; exact hi
    obtain ⟨q, e⟩ := LabC.base L g hi hb hl h0 k (by omega)
    have hx := set_el z hi (k := (k : Nat)) (by omega) (by omega)
    obtain ⟨q2, e2⟩ := L.D_coc g hb hx (head_el g i)
    have sh := set_heads (k := k) g z hi (zeroV_at up i) (by omega)
    rw [put0l g (times_el g (headV_len _ _))] at sh
    have sb := set_heads (k := k) g hb hi h0 (by omega)
    have eb : putV up b ((zeroV up).set i (k : Nat)) = b.set i (k : Nat) := by rw [← sh]; exact sb
    rw [eb, set_head g z hi (by omega) (by omega)] at e2
    have bk := set_el hb hi (k := (k : Nat)) (by omega) (by omega)
    obtain ⟨q3, e3⟩ := L.step1 g hi bk (low_set bl hl) (by rw [set_at bl, if_pos rfl]; omega)
    obtain ⟨q4, e4⟩ := L.step1 g hi hx (low_set zl (low_zero i)) (by rw [set_at zl, if_pos rfl]; omega)
    show Cg m (dfD up d H b ((zeroV up).set i ((k + 1 : Nat) : Int))) 0
    rw [show ((k + 1 : Nat) : Int) = (k : Int) + 1 by omega]
    refine ⟨q + q3 - q4 - q2, ?_⟩
    rw [Int.mul_sub, Int.mul_sub, Int.mul_add]
    omega
/-- by a head whose place is the last -/
theorem LabC.S (L : LabC up m d H lab) (g : OkR up) {i : Nat} (hi : i < up.length) {x : List Int} (hx : OkE up x) (hl : Low i x) : Cg m (dfD up d H x (headV up.length i)) 0 := by
  have n2 := g.get hi
  have z := zero_el g
  obtain ⟨x0, x1⟩ := hx.get hi
  have xl : i < x.length := by rw [hx.len]; exact hi
  by_cases h : x.getD i 0 + 1 < up.getD i 0
  · exact L.step1 g hi hx hl h
  · obtain ⟨n, hn⟩ : ∃ n : Nat, x.getD i 0 = (n : Int) := ⟨(x.getD i 0).toNat, by omega⟩
    have hb := set_el hx hi (k := 0) (by omega) (by omega)
    have b0 : (x.set i 0).getD i 0 = 0 := by rw [set_at xl, if_pos rfl]
    have bl := low_set (k := 0) xl hl
    obtain ⟨q, e⟩ := L.base g hi hb bl b0 n (by omega)
    have sh := set_heads (k := n) g z hi (zeroV_at up i) (by omega)
    rw [put0l g (times_el g (headV_len _ _))] at sh
    have zx := set_el z hi (k := (n : Nat)) (by omega) (by omega)
    obtain ⟨q2, e2⟩ := L.D_coc g hb zx (head_el g i)
    have sb := set_heads (k := n) g hb hi b0 (by omega)
    have eb : putV up (x.set i 0) ((zeroV up).set i (n : Nat)) = x := by rw [← sh, sb, set_set, ← hn, set_same xl]
    have back : putV up ((zeroV up).set i (n : Int)) (headV up.length i) = zeroV up := by
      rw [← sh, times_succ (headV_len _ _), show ((n + 1 : Nat) : Int) = up.getD i 0 by omega, times_nil g i hi]
    obtain ⟨q3, e3⟩ := L.wrap0 g hi
    rw [show up.getD i 0 - 1 = (n : Int) by omega] at e3
    obtain ⟨q4, e4⟩ := L.Dx0 g hb
    rw [eb, back] at e2
    refine ⟨q2 + q3 + q4 - q, ?_⟩
    rw [Int.mul_sub, Int.mul_add, Int.mul_add]
    omega
theorem low_head {i j : Nat} (h : i ≤ j) : Low j (headV up.length i) := fun k hk => by
  by_cases q : k < up.length
  · rw [headV_at q, if_neg (by omega)]
  · rw [List.getD_eq_getElem?_getD, List.getElem?_eq_none (by rw [headV_len]; omega)]
    rfl
theorem LabC.heads2 (L : LabC up m d H lab) (g : OkR up) {i j : Nat} (hij : i < j) (hj : j < up.length) : Cg m (dfD up d H (headV up.length i) (headV up.length j)) 0 ∧ Cg m (dfD up d H (headV up.length j) (headV up.length i)) 0 := by
  obtain ⟨q, e⟩ := L.S g hj (head_el g i) (low_head (by omega))
  refine ⟨⟨q, e⟩, ?_⟩
  obtain ⟨q2, e2⟩ := L.od i j hij hj
  unfold dfD at e ⊢
  refine ⟨q - q2, ?_⟩
  rw [putV_comm (headV_len _ _) (headV_len _ _), Int.mul_sub]
  omega
theorem low_put {x y : List Int} {j : Nat} (g : OkR up) (hx : OkE up x) (hy : OkE up y) (h1 : Low j x) (h2 : Low j y) : Low j (putV up x y) := fun k hk => by
  by_cases q : k < up.length
  · rw [putV_at q hx.len hy.len, h1 k hk, h2 k hk]
    simp
  · rw [List.getD_eq_getElem?_getD, List.getElem?_eq_none (by rw [putV_len hx.len hy.len]; omega)]
    rfl
/-- by a head, whatever stands behind it -/
theorem LabC.T (L : LabC up m d H lab) (g : OkR up) {i : Nat} (hi : i < up.length) : ∀ j : Nat, i ≤ j → j < up.length → ∀ (n : Nat) (x : List Int), OkE up x → Low j x → x.getD j 0 = (n : Int) → Cg m (dfD up d H x (headV up.length i)) 0 := by
  intro j
  induction j with
  | zero =>
    intro hij hj n x hx hl _
    have : i = 0 := by omega
    subst this
    exact L.S g hi hx hl
  | succ j ih =>
    intro hij hj n
    by_cases q : i = j + 1
    · subst q
      intro x hx hl _
      exact L.S g hi hx hl
    · induction n with
      | zero =>
        intro x hx hl h0
        refine ih (by omega) (by omega) (x.getD j 0).toNat x hx (fun k hk => ?_) ?_
        · by_cases r : k = j + 1
          · subst r; exact h0
          · exact hl k (by omega)
        · have := hx.get (i := j) (by omega)
          omega
      | succ n ihn =>
        intro x hx hl hn
        have xl : j + 1 < x.length := by rw [hx.len]; exact hj
        have xb := hx.get hj
        have hx' := set_el hx hj (k := (n : Int)) (by omega) (by omega)
        have l' := low_set (k := (n : Int)) xl hl
        have a0 := ihn _ hx' l' (by rw [set_at xl, if_pos rfl])
        have hj1 := head_el g (j + 1)
        have hi1 := head_el g i
        obtain ⟨q1, e1⟩ := a0
        obtain ⟨q2, e2⟩ := L.D_coc g hx' hj1 hi1
        obtain ⟨q3, e3⟩ := L.D_coc g hx' hi1 hj1
        obtain ⟨q4, e4⟩ := L.S g hj hx' l'
        obtain ⟨q5, e5⟩ := L.S g hj (put_el g hx'.len hi1.len) (low_put g hx' hi1 l' (low_head (by omega)))
        obtain ⟨⟨q6, e6⟩, q7, e7⟩ := L.heads2 g (i := i) (j := j + 1) (by omega) hj
        rw [set_head g hx hj (by omega) (by omega), show (n : Int) + 1 = x.getD (j + 1) 0 by omega, set_same xl, putV_comm hj1.len hi1.len] at e2
        refine ⟨q2 - q4 + q7 + q1 + q5 - q6 - q3, ?_⟩
        simp only [Int.mul_sub, Int.mul_add]
        omega
theorem LabC.all_heads (L : LabC up m d H lab) (g : OkR up) {i : Nat} (hi : i < up.length) {x : List Int} (hx : OkE up x) : Cg m (dfD up d H x (headV up.length i)) 0 := by
  have hn : up.length - 1 < up.length := by omega
  refine L.T g hi (up.length - 1) (by omega) hn (x.getD (up.length - 1) 0).toNat x hx (fun j hj => ?_) (by have := hx.get hn; omega)
  rw [List.getD_eq_getElem?_getD, List.getElem?_eq_none (by rw [hx.len]; omega)]
  rfl
theorem sum_set : ∀ (x : List Int) (i : Nat) (k : Int), i < x.length → (x.set i k).sum = x.sum - x.getD i 0 + k
  | [], _, _, h => by simp at h
  | a :: x, 0, k, _ => by simp; omega
  | a :: x, i + 1, k, h => by
    have := sum_set x i k (by simpa using h)
    simp at this ⊢
    omega
/-- .. and so by all -/
theorem LabC.all (L : LabC up m d H lab) (g : OkR up) : ∀ (n : Nat) (y : List Int), OkE up y → y.sum = (n : Int) → ∀ x, OkE up x → Cg m (dfD up d H x y) 0 := by
  intro n
  induction n with
  | zero =>
    intro y hy hs x hx
    have e : y = zeroV up := by
      refine ext_getD (by rw [hy.len]; unfold zeroV; simp) fun i hi => ?_
      rw [zeroV_at]
      have hi : i < up.length := by unfold zeroV at hi; simpa using hi
      by_cases q : y.getD i 0 = 0
      · exact q
      · have nn : ∀ z : List Int, (∀ i, i < z.length → 0 ≤ z.getD i 0) → 0 ≤ z.sum := fun z => by
          induction z with
          | nil => intro _; simp
          | cons a z ih =>
            intro h
            have h0 := h 0 (by simp)
            have h1 := ih fun i hi => by have := h (i + 1) (by simpa using hi); simpa using this
            simp at h0 ⊢
            omega
        have yl : i < y.length := by rw [hy.len]; exact hi
        have p := nn (y.set i 0) fun j hj => by
          rw [set_at yl]
          split
          · omega
          · rw [set_len] at hj
            exact (hy.get (by rw [← hy.len]; exact hj)).1
        rw [sum_set y i 0 yl] at p
        have := hy.get hi
        omega
    rw [e]
    exact L.Dx0 g hx
  | succ n ih =>
    intro y hy hs x hx
    obtain ⟨i, hi, h1⟩ : ∃ i, i < up.length ∧ 1 ≤ y.getD i 0 := by
      by_cases q : ∃ i, i < up.length ∧ 1 ≤ y.getD i 0
      · exact q
      · exfalso
        have np : ∀ z : List Int, (∀ i, i < z.length → z.getD i 0 ≤ 0) → z.sum ≤ 0 := fun z => by
          induction z with
          | nil => intro _; simp
          | cons a z ih =>
            intro h
            have h0 := h 0 (by simp)
            have h1 := ih fun i hi => by have := h (i + 1) (by simpa using hi); simpa using this
            simp at h0 ⊢
            omega
        have := np y fun i hi => by
          by_cases r : 1 ≤ y.getD i 0
          · exact absurd ⟨i, by rw [← hy.len]; exact hi, r⟩ q
          · omega
        omega
    have yl : i < y.length := by rw [hy.len]; exact hi
    have yb := hy.get hi
    have hy' := set_el hy hi (k := y.getD i 0 - 1) (by omega) (by omega)
    obtain ⟨q1, e1⟩ := ih _ hy' (by rw [sum_set y i _ yl]; omega) x hx
    obtain ⟨q2, e2⟩ := L.D_coc g hx hy' (head_el g i)
    obtain ⟨q3, e3⟩ := L.all_heads g hi (put_el g hx.len hy'.len)
    obtain ⟨q4, e4⟩ := L.all_heads g hi hy'
    rw [set_head g hy hi (by omega) (by omega), show y.getD i 0 - 1 + 1 = y.getD i 0 by omega, set_same yl] at e2
    refine ⟨q1 + q3 - q4 - q2, ?_⟩
    simp only [Int.mul_sub, Int.mul_add]
    omega
end
end Mir
namespace Mir
open PySem PySem.Spec PyProof.Rows L2
variable [Tn]
abbrev ZRec (h : Heap) (z TI TO : Addr) (f0 f1 : Value) : Prop :=
  h.get? z = some { cls := .type "zip", dict := none, data := .fields #[f0, f1, .bool false, .ref TI, .ref TO], slots := #[] }
section
variable {prog : Program} {w : World} {A : Around} {E : Value → Shared → Prop} {s : Shared}
/-- a zip between two turns: nothing given out, or a tuple that is still there or gone -/
def ZSt (h : Heap) (z TI TO : Addr) : Prop := ZRec h z TI TO .none (.bool false) ∨ ∃ (T : Addr) (f : Bool), ZRec h z TI TO (rawInt T) (.bool f)
end
end Mir
namespace Mir
open PySem PySem.Spec PyProof.Rows L2
variable [Tn]
/-- what a turn of the zip leaves -/
structure ZAll (h : Heap) (z TI TO i1 i2 l1 l2 : Addr) (k1 k2 : Bool) (p : Nat) : Prop where
  st : ZSt h z TI TO
  ti : IsT h TI #[.ref i1, .ref i2]
  to_ : ∃ o1 o2 : Value, IsT h TO #[o1, o2]
  n1 : SIt h k1 i1 l1 p
  n2 : SIt h k2 i2 l2 p
theorem ZSt.at {h h' : Heap} {z TI TO : Addr} (x : ZSt h z TI TO) (f : ∀ o, h.get? z = some o → h'.get? z = some o) : ZSt h' z TI TO := by
  rcases x with x | ⟨T, g, x⟩
  · exact .inl (f _ x)
  · exact .inr ⟨T, g, f _ x⟩
theorem ZSt.ob {h : Heap} {z TI TO : Addr} (x : ZSt h z TI TO) : ∃ o, h.get? z = some o ∧ ∀ v, o.data ≠ .cell v := by
  rcases x with x | ⟨T, g, x⟩
  · exact ⟨_, x, fun v q => nomatch q⟩
  · exact ⟨_, x, fun v q => nomatch q⟩
theorem ZSt.lt {h : Heap} {z TI TO : Addr} (x : ZSt h z TI TO) : z < h.objs.size := let ⟨_, e, _⟩ := x.ob; Heap.lt_size e
section
variable {h h' : Heap} {z TI TO i1 i2 l1 l2 : Addr} {k1 k2 : Bool} {p : Nat}
theorem ZAll.at (x : ZAll h z TI TO i1 i2 l1 l2 k1 k2 p) (f : ∀ b, (b = z ∨ b = TI ∨ b = TO ∨ b = i1 ∨ b = i2) → ∀ o, h.get? b = some o → h'.get? b = some o) : ZAll h' z TI TO i1 i2 l1 l2 k1 k2 p where
  st := x.st.at (f z (.inl rfl))
  ti := f TI (.inr (.inl rfl)) _ x.ti
  to_ := let ⟨o1, o2, e⟩ := x.to_; ⟨o1, o2, f TO (.inr (.inr (.inl rfl))) _ e⟩
  n1 := x.n1.at (f i1 (.inr (.inr (.inr (.inl rfl)))))
  n2 := x.n2.at (f i2 (.inr (.inr (.inr (.inr rfl)))))
theorem ZAll.lt (x : ZAll h z TI TO i1 i2 l1 l2 k1 k2 p) {b : Addr} (hb : b = z ∨ b = TI ∨ b = TO ∨ b = i1 ∨ b = i2) : b < h.objs.size := by
  obtain ⟨o1, o2, e⟩ := x.to_
  rcases hb with q | q | q | q | q
  · rw [q]; exact x.st.lt
  · rw [q]; exact Heap.lt_size x.ti
  · rw [q]; exact Heap.lt_size e
  · rw [q]; exact x.n1.lt
  · rw [q]; exact x.n2.lt
end
end Mir
namespace Mir
open PySem PySem.Spec PyProof.Rows L2
variable [Tn]
section
variable {X : Cx} {W : Wi} {k : Nat}
@[simp] def tupRevD : D → Res D
  | .tup xs => .ok (.tup xs.reverse)
  | _ => .bad
end
end Mir
namespace Mir
open PySem PySem.Spec PyProof.Rows L2
variable [Tn]
def capsD : List Nat → Env → Res (List D)
  | [], _ => .ok []
  | j :: js, r => getS j r >>= fun d => capsD js r >>= fun ds => .ok (d :: ds)
@[simp] theorem capsD_nil (r : Env) : capsD [] r = .ok [] := rfl
@[simp] theorem capsD_cons (j : Nat) (js : List Nat) (r : Env) : capsD (j :: js) r = (getS j r >>= fun d => capsD js r >>= fun ds => .ok (d :: ds)) := rfl
end Mir
namespace Mir
section
variable [Tn]
/-- a dict filled by a rule -/
theorem fillRule {κ β : Type} [DecidableEq κ] {N : Nat} {α : Type} {f : D → Env → Oc} (A : α → D) (kx : α → κ) (g : κ → β) (P : List (κ × β) → Env → Prop) : ∀ {X : List α} {L : List (κ × β)} {r : Env}, L.length + X.length ≤ N → (X.map kx).Nodup → (∀ a ∈ X, kx a ∉ L.map (·.1)) →
    (∀ L, L.length < N → ∀ a ∈ X, kx a ∉ L.map (·.1) → ∀ r, P L r → ∃ r', f (A a) r = .nx r' ∧ P (setA L (kx a) (g (kx a))) r') → P L r →
    ∃ r', forD f (X.map A) r = .nx r' ∧ P (L ++ X.map fun a => (kx a, g (kx a))) r'
  | [], L, r, _, _, _, _, hp => ⟨r, rfl, by simpa using hp⟩
  | a :: X, L, r, hl, hn, hf, h, hp => by
    rw [List.length_cons] at hl
    rw [List.map_cons, List.nodup_cons] at hn
    obtain ⟨r1, e1, p1⟩ := h L (by omega) a List.mem_cons_self (hf a List.mem_cons_self) r hp
    rw [setA_new _ (hf a List.mem_cons_self)] at p1
    obtain ⟨r2, e2, p2⟩ := fillRule A kx g P (X := X) (L := L ++ [(kx a, g (kx a))]) (r := r1) (by simp; omega) hn.2 (fun z hz hm => by
      rw [List.map_append, List.mem_append] at hm
      rcases hm with m | m
      · exact hf z (List.mem_cons_of_mem _ hz) m
      · rw [List.map_cons, List.map_nil, List.mem_singleton] at m
        have m : kx z = kx a := m
        exact hn.1 (m ▸ List.mem_map_of_mem hz)) (fun L hL b hb => h L hL b (List.mem_cons_of_mem _ hb)) p1
    refine ⟨r2, ?_, ?_⟩
    · rw [List.map_cons, forD_cons, e1]
      exact e2
    · rw [List.map_cons, List.append_cons]
      exact p2
end
end Mir
namespace Mir
open PySem PySem.Spec PyProof.Rows L2
variable [Tn]
section
variable {X : Cx} {W : Wi}
theorem Own.opts {G : GC} {F H : Hp} {l : List Shape} {v : V} {d : D} {A : List Addr} (h : Own G F H (.parts l) v d A) : Own G F H (.opts l) v d A := by
  cases h with
  | lst h0 h1 h2 h3 h4 => exact .lst rfl h1 h2 h3 h4
  | tup h0 h1 h2 h3 h4 => exact .tup rfl h1 h2 h3 h4
  | dic h0 h1 h2 z1 z2 z3 z4 z5 h3 h4 => exact .dic rfl h1 h2 z1 z2 z3 z4 z5 h3 h4
  | obj h0 h1 h2 z h3 h4 => exact .obj rfl h1 h2 z h3 h4
end
end Mir
namespace Mir
open PySem PySem.Spec PyProof.Rows L2
variable [Tn]
section
variable {X : Cx} {W : Wi} {k : Kd}
theorem PG.or {e : Expr} {t1 t2 : TG} (h1 : PG X e t1) (h2 : PG X e t2) : PG X e (fun v σ H Q => t1 v σ H Q ∨ t2 v σ H Q) :=
  ⟨fun pins s σ H v u Q I r hw => hw.elim (fun h => h1.run pins s σ H v u Q I r h) fun h => h2.run pins s σ H v u Q I r h⟩
end
end Mir
set_option maxHeartbeats 0
namespace Mir.K14
open PySem PySem.Spec PyProof.Rows L2
def top (i : Nat) : Stmt := PySem.Challenge.pw_carrytower_k14_tables_over_towers.main.body.getD i (.Pass ⟨0, 0, 0, 0⟩)
section
variable [Tn]
abbrev isC : List Nat := [10, 11, 12, 13, 14, 23, 24, 0, 2, 1]
abbrev isU : List Nat := [0]
abbrev ctC : List Nat := [10, 11, 12, 13, 14, 23, 24]
abbrev ctU : List Nat := [13, 23, 24]
abbrev s_q_rounds : Stmt := top 29
abbrev N_q_rounds : List Str := ["_law_cell_here", "_law_most", "_law_greatest", "_law_found", "_law_left", "_law_k"]
theorem sc_q_rounds : FnScope N_q_rounds ["_law_cell_here", "_law_most", "_law_greatest"] (defScope s_q_rounds) := ⟨rfl, rfl, rfl, by decide +kernel, rfl, by decide +kernel, by decide +kernel⟩
abbrev s_q_cell : Stmt := top 27
abbrev N_q_cell : List Str := ["_law_script", "_law_k", "_law_cell_here", "_law_first"]
theorem sc_q_cell : FnScope N_q_cell ["_law_script", "_law_k"] (defScope s_q_cell) := ⟨rfl, rfl, rfl, by decide +kernel, rfl, by decide +kernel, by decide +kernel⟩
abbrev s_q_members : Stmt := top 30
abbrev N_q_members : List Str := ["_law_rounds_here", "_law_found", "_law_number", "_law_longer", "_law_x", "_law_here"]
theorem sc_q_members : FnScope N_q_members ["_law_rounds_here"] (defScope s_q_members) := ⟨rfl, rfl, rfl, by decide +kernel, rfl, by decide +kernel, by decide +kernel⟩
abbrev s_q_element : Stmt := top 33
abbrev N_q_element : List Str := ["_law_rounds_here", "_law_cell_here", "_law_found", "_law_number"]
theorem sc_q_element : FnScope N_q_element ["_law_rounds_here", "_law_cell_here"] (defScope s_q_element) := ⟨rfl, rfl, rfl, by decide +kernel, rfl, by decide +kernel, by decide +kernel⟩
abbrev s_q_added : Stmt := top 31
abbrev N_q_added : List Str := ["_law_rounds_here", "_law_x", "_law_y", "_law_k"]
theorem sc_q_added : FnScope N_q_added ["_law_rounds_here", "_law_x", "_law_y"] (defScope s_q_added) := ⟨rfl, rfl, rfl, by decide +kernel, rfl, by decide +kernel, by decide +kernel⟩
abbrev s_q_times : Stmt := top 32
abbrev N_q_times : List Str := ["_law_rounds_here", "_law_n", "_law_x", "_law_k"]
theorem sc_q_times : FnScope N_q_times ["_law_rounds_here", "_law_n", "_law_x"] (defScope s_q_times) := ⟨rfl, rfl, rfl, by decide +kernel, rfl, by decide +kernel, by decide +kernel⟩
abbrev s_q_table : Stmt := top 34
abbrev N_q_table : List Str := ["_law_lower", "_law_upper", "_law_cells", "_law_some", "_law_given", "_law_k", "_law_x", "_law_table_here", "_law_y", "_law_here", "_law_at"]
theorem sc_q_table : FnScope N_q_table ["_law_lower", "_law_upper", "_law_cells"] (defScope s_q_table) := ⟨rfl, rfl, rfl, by decide +kernel, rfl, by decide +kernel, by decide +kernel⟩
abbrev s_q_paired : Stmt := top 36
abbrev N_q_paired : List Str := ["_law_lower", "_law_upper", "_law_table_here", "_law_i", "_law_j", "_law_a", "_law_found", "_law_x", "_law_y"]
theorem sc_q_paired : FnScope N_q_paired ["_law_lower", "_law_upper", "_law_table_here", "_law_i", "_law_j", "_law_a"] (defScope s_q_paired) := ⟨rfl, rfl, rfl, by decide +kernel, rfl, by decide +kernel, by decide +kernel⟩
abbrev s_q_gcd : Stmt := top 35
abbrev N_q_gcd : List Str := ["_law_one", "_law_other"]
theorem sc_q_gcd : FnScope N_q_gcd ["_law_one", "_law_other"] (defScope s_q_gcd) := ⟨rfl, rfl, rfl, by decide +kernel, rfl, by decide +kernel, by decide +kernel⟩
abbrev s_q_odd_element : Stmt := top 37
abbrev N_q_odd_element : List Str := ["_law_lower", "_law_one", "_law_other", "_law_cell_here", "_law_found", "_law_number", "_law_part"]
theorem sc_q_odd_element : FnScope N_q_odd_element ["_law_lower", "_law_one", "_law_other", "_law_cell_here"] (defScope s_q_odd_element) := ⟨rfl, rfl, rfl, by decide +kernel, rfl, by decide +kernel, by decide +kernel⟩
abbrev s_q_ground : Stmt := top 41
abbrev N_q_ground : List Str := ["_law_script", "_law_lower", "_law_upper", "_law_way", "_law_table_here"]
theorem sc_q_ground : FnScope N_q_ground ["_law_script"] (defScope s_q_ground) := ⟨rfl, rfl, rfl, by decide +kernel, rfl, by decide +kernel, by decide +kernel⟩
abbrev s_Rounds_members : Stmt := inClass (top 15) 1
abbrev N_Rounds_members : List Str := ["self", "found", "number", "longer", "x", "here"]
theorem sc_Rounds_members : FnScope N_Rounds_members ["self"] (defScope s_Rounds_members) := ⟨rfl, rfl, rfl, by decide +kernel, rfl, by decide +kernel, by decide +kernel⟩
abbrev s_Tower_members : Stmt := inClass (top 25) 1
abbrev N_Tower_members : List Str := ["self", "found", "a", "x"]
theorem sc_Tower_members : FnScope N_Tower_members ["self"] (defScope s_Tower_members) := ⟨rfl, rfl, rfl, by decide +kernel, rfl, by decide +kernel, by decide +kernel⟩
abbrev s_is_whole : Stmt := top 12
abbrev N_is_whole : List Str := ["thing"]
theorem sc_is_whole : FnScope N_is_whole ["thing"] (defScope s_is_whole) := ⟨rfl, rfl, rfl, by decide +kernel, rfl, by decide +kernel, by decide +kernel⟩
abbrev s_Rounds_has : Stmt := inClass (top 15) 2
abbrev N_Rounds_has : List Str := ["self", "thing", "number", "most"]
theorem sc_Rounds_has : FnScope N_Rounds_has ["self", "thing"] (defScope s_Rounds_has) := ⟨rfl, rfl, rfl, by decide +kernel, rfl, by decide +kernel, by decide +kernel⟩
abbrev s_Group_look_at : Stmt := inClass (top 14) 1
abbrev N_Group_look_at : List Str := ["self", "thing"]
theorem sc_Group_look_at : FnScope N_Group_look_at ["self", "thing"] (defScope s_Group_look_at) := ⟨rfl, rfl, rfl, by decide +kernel, rfl, by decide +kernel, by decide +kernel⟩
abbrev s_Rounds_put : Stmt := inClass (top 15) 4
abbrev N_Rounds_put : List Str := ["self", "x", "y", "a", "b", "number"]
theorem sc_Rounds_put : FnScope N_Rounds_put ["self", "x", "y"] (defScope s_Rounds_put) := ⟨rfl, rfl, rfl, by decide +kernel, rfl, by decide +kernel, by decide +kernel⟩
abbrev s_Group_added : Stmt := inClass (top 14) 2
abbrev N_Group_added : List Str := ["self", "x", "y"]
theorem sc_Group_added : FnScope N_Group_added ["self", "x", "y"] (defScope s_Group_added) := ⟨rfl, rfl, rfl, by decide +kernel, rfl, by decide +kernel, by decide +kernel⟩
abbrev s_Tower_has : Stmt := inClass (top 25) 2
abbrev N_Tower_has : List Str := ["self", "thing"]
theorem sc_Tower_has : FnScope N_Tower_has ["self", "thing"] (defScope s_Tower_has) := ⟨rfl, rfl, rfl, by decide +kernel, rfl, by decide +kernel, by decide +kernel⟩
abbrev s_Table_carry : Stmt := inClass (top 20) 1
abbrev N_Table_carry : List Str := ["self", "x", "y"]
theorem sc_Table_carry : FnScope N_Table_carry ["self", "x", "y"] (defScope s_Table_carry) := ⟨rfl, rfl, rfl, by decide +kernel, rfl, by decide +kernel, by decide +kernel⟩
abbrev s_Tower_put : Stmt := inClass (top 25) 4
abbrev N_Tower_put : List Str := ["self", "x", "y", "lower", "carried"]
theorem sc_Tower_put : FnScope N_Tower_put ["self", "x", "y"] (defScope s_Tower_put) := ⟨rfl, rfl, rfl, by decide +kernel, rfl, by decide +kernel, by decide +kernel⟩
abbrev s_break_of_three : Stmt := top 21
abbrev N_break_of_three : List Str := ["table", "lower", "upper", "some", "x", "y", "z", "one", "other"]
theorem sc_break_of_three : FnScope N_break_of_three ["table"] (defScope s_break_of_three) := ⟨rfl, rfl, rfl, by decide +kernel, rfl, by decide +kernel, by decide +kernel⟩
abbrev s_NoTower_init : Stmt := inClass (top 8) 0
abbrev s_Rounds_nought : Stmt := inClass (top 15) 3
abbrev N_Rounds_nought : List Str := ["self", "number"]
theorem sc_Rounds_nought : FnScope N_Rounds_nought ["self"] (defScope s_Rounds_nought) := ⟨rfl, rfl, rfl, by decide +kernel, rfl, by decide +kernel, by decide +kernel⟩
abbrev s_Tower_init : Stmt := inClass (top 25) 0
abbrev N_Tower_init : List Str := ["self", "table", "three"]
theorem sc_Tower_init : FnScope N_Tower_init ["self", "table"] (defScope s_Tower_init) := ⟨rfl, rfl, rfl, by decide +kernel, rfl, by decide +kernel, by decide +kernel⟩
abbrev s_Group_size : Stmt := inClass (top 14) 0
abbrev N_Group_size : List Str := ["self"]
theorem sc_Group_size : FnScope N_Group_size ["self"] (defScope s_Group_size) := ⟨rfl, rfl, rfl, by decide +kernel, rfl, by decide +kernel, by decide +kernel⟩
abbrev s_Rounds_is_even : Stmt := inClass (top 15) 7
abbrev N_Rounds_is_even : List Str := ["self"]
theorem sc_Rounds_is_even : FnScope N_Rounds_is_even ["self"] (defScope s_Rounds_is_even) := ⟨rfl, rfl, rfl, by decide +kernel, rfl, by decide +kernel, by decide +kernel⟩
abbrev s_break_of_two : Stmt := top 22
abbrev N_break_of_two : List Str := ["table", "some", "x", "y"]
theorem sc_break_of_two : FnScope N_break_of_two ["table"] (defScope s_break_of_two) := ⟨rfl, rfl, rfl, by decide +kernel, rfl, by decide +kernel, by decide +kernel⟩
abbrev s_Tower_is_even : Stmt := inClass (top 25) 7
abbrev N_Tower_is_even : List Str := ["self"]
theorem sc_Tower_is_even : FnScope N_Tower_is_even ["self"] (defScope s_Tower_is_even) := ⟨rfl, rfl, rfl, by decide +kernel, rfl, by decide +kernel, by decide +kernel⟩
abbrev s_look_at_groups : Stmt := top 19
abbrev N_look_at_groups : List Str := ["lower", "upper"]
theorem sc_look_at_groups : FnScope N_look_at_groups ["lower", "upper"] (defScope s_look_at_groups) := ⟨rfl, rfl, rfl, by decide +kernel, rfl, by decide +kernel, by decide +kernel⟩
abbrev s_NoCarry_init : Stmt := inClass (top 7) 0
abbrev s_Table_init : Stmt := inClass (top 20) 0
abbrev N_Table_init : List Str := ["self", "lower", "upper", "carries", "some", "x", "y"]
theorem sc_Table_init : FnScope N_Table_init ["self", "lower", "upper", "carries"] (defScope s_Table_init) := ⟨rfl, rfl, rfl, by decide +kernel, rfl, by decide +kernel, by decide +kernel⟩
abbrev s_are_rounds : Stmt := top 13
abbrev N_are_rounds : List Str := ["thing", "many", "number"]
theorem sc_are_rounds : FnScope N_are_rounds ["thing"] (defScope s_are_rounds) := ⟨rfl, rfl, rfl, by decide +kernel, rfl, by decide +kernel, by decide +kernel⟩
abbrev s_Rounds_init : Stmt := inClass (top 15) 0
abbrev N_Rounds_init : List Str := ["self", "rounds"]
theorem sc_Rounds_init : FnScope N_Rounds_init ["self", "rounds"] (defScope s_Rounds_init) := ⟨rfl, rfl, rfl, by decide +kernel, rfl, by decide +kernel, by decide +kernel⟩
abbrev s_q_whole : Stmt := top 28
abbrev N_q_whole : List Str := ["_law_found"]
theorem sc_q_whole : FnScope N_q_whole ["_law_found"] (defScope s_q_whole) := ⟨rfl, rfl, rfl, by decide +kernel, rfl, by decide +kernel, by decide +kernel⟩
abbrev s_q_has : Stmt := top 40
abbrev N_q_has : List Str := ["_law_ground_here", "_law_thing", "_law_rounds_here", "_law_part", "_law_number", "_law_most"]
theorem sc_q_has : FnScope N_q_has ["_law_ground_here", "_law_thing"] (defScope s_q_has) := ⟨rfl, rfl, rfl, by decide +kernel, rfl, by decide +kernel, by decide +kernel⟩
abbrev s_q_two : Stmt := top 38
abbrev N_q_two : List Str := ["_law_upper", "_law_table_here", "_law_some", "_law_x", "_law_y"]
theorem sc_q_two : FnScope N_q_two ["_law_upper", "_law_table_here"] (defScope s_q_two) := ⟨rfl, rfl, rfl, by decide +kernel, rfl, by decide +kernel, by decide +kernel⟩
abbrev s_q_asked : Stmt := top 43
abbrev N_q_asked : List Str := ["_law_low", "_law_upper", "_law_carries", "_law_told", "e"]
theorem sc_q_asked : FnScope N_q_asked ["_law_low", "_law_upper", "_law_carries"] (defScope s_q_asked) := ⟨rfl, rfl, rfl, by decide +kernel, rfl, by decide +kernel, by decide +kernel⟩
abbrev s_Table_carries : Stmt := inClass (top 20) 2
abbrev N_Table_carries : List Str := ["self"]
theorem sc_Table_carries : FnScope N_Table_carries ["self"] (defScope s_Table_carries) := ⟨rfl, rfl, rfl, by decide +kernel, rfl, by decide +kernel, by decide +kernel⟩
abbrev s_q_put : Stmt := top 39
abbrev N_q_put : List Str := ["_law_ground_here", "_law_one", "_law_other", "_law_lower", "_law_upper", "_law_table_here", "_law_here"]
theorem sc_q_put : FnScope N_q_put ["_law_ground_here", "_law_one", "_law_other"] (defScope s_q_put) := ⟨rfl, rfl, rfl, by decide +kernel, rfl, by decide +kernel, by decide +kernel⟩
abbrev s_q_broken : Stmt := top 42
abbrev N_q_broken : List Str := ["_law_ground_here", "_law_upper", "_law_carries", "_law_some", "_law_x", "_law_y", "_law_z", "_law_one"]
theorem sc_q_broken : FnScope N_q_broken ["_law_ground_here", "_law_upper", "_law_carries"] (defScope s_q_broken) := ⟨rfl, rfl, rfl, by decide +kernel, rfl, by decide +kernel, by decide +kernel⟩
abbrev s_q_tower_right : Stmt := top 44
abbrev N_q_tower_right : List Str := ["_law_table_here", "_law_three", "_law_many", "_law_told", "_law_found", "e"]
theorem sc_q_tower_right : FnScope N_q_tower_right ["_law_table_here", "_law_three", "_law_many"] (defScope s_q_tower_right) := ⟨rfl, rfl, rfl, by decide +kernel, rfl, by decide +kernel, by decide +kernel⟩
abbrev s_law : Stmt := top 45
abbrev N_law : List Str := ["_law_script", "_law_ground_here", "_law_low", "_law_upper", "_law_some", "_law_things", "_law_a", "_law_x", "_law_carries", "_law_k", "_law_cell_here", "_law_y", "_law_z", "_law_new", "_law_due", "_law_table_here", "_law_three"]
theorem sc_law : FnScope N_law ["_law_script"] (defScope s_law) := ⟨rfl, rfl, rfl, by decide +kernel, rfl, by decide +kernel, by decide +kernel⟩
def q_rounds_l1 : D → Env → Oc := fun d r => (into ((nameG 5) d r)).seq fun r => ((lift ((((getS 4 r) >>= fun x => (.ok (.int 1)) >>= fun y => gtD x y) >>= asB) >>= fun t => if t = true then ((((getS 0 r) >>= fun x => (.ok (.int 5)) >>= fun y => modD x y) >>= fun x => (.ok (.int 0)) >>= fun y => gtD x y) >>= asB) else .ok false) r fun t => if t = true then ((appG 3 (fun r => (.ok (.int 2)) >>= fun x => (((getS 0 r) >>= fun x => (.ok (.int 5)) >>= fun y => divD x y) >>= fun x => ((((getS 4 r) >>= fun d => ((getS 2 r) >>= fun d => (.ok []) >>= fun ds => .ok (d :: ds)) >>= fun ds => .ok (d :: ds)) >>= two minD) >>= fun x => (.ok (.int 1)) >>= fun y => subD x y) >>= fun y => modD x y) >>= fun y => addD x y) r).seq fun r => (lift ((getS 4 r) >>= fun x => ((getR 3 r) >>= fun x => ((.ok (.int 1)) >>= negD) >>= fun y => ixD x y) >>= fun y => divD x y) r fun d => .nx (r.set 4 (.sh d)))) else (.nx r)).seq fun r => (lift ((getS 0 r) >>= fun x => (.ok (.int 101)) >>= fun y => divD x y) r fun d => .nx (r.set 0 (.sh d))))
def e_q_rounds : Env → Oc := fun r => (lift ((.ok []) >>= lstD) r fun d => .nx (r.set 3 (.ow .flat d))).seq fun r => ((lift (getS 1 r) r fun d => .nx (r.set 4 (.sh d))).seq fun r => ((lift (((.ok (.int 3)) >>= fun d => (.ok []) >>= fun ds => .ok (d :: ds)) >>= rng1) r fun ds => forD (q_rounds_l1) ds r).seq fun r => (lift (((getR 3 r) >>= fun d => (.ok []) >>= fun ds => .ok (d :: ds)) >>= one tupleD) r fun d => .rt d)))
def d_q_rounds : List D → Res D := runD 3 N_q_rounds.length e_q_rounds
def e_q_cell : Env → Oc := fun r => (lift (.ok (.int 0)) r fun d => .nx (r.set 2 (.sh d))).seq fun r => ((lift (((((getS 0 r) >>= fun d => (.ok []) >>= fun ds => .ok (d :: ds)) >>= one lenD) >>= fun x => (.ok (.int 0)) >>= fun y => gtD x y) >>= asB) r fun t => if t = true then (lift ((getS 0 r) >>= fun x => ((getS 1 r) >>= fun x => (((getS 0 r) >>= fun d => (.ok []) >>= fun ds => .ok (d :: ds)) >>= one lenD) >>= fun y => modD x y) >>= fun y => ixD x y) r fun d => .nx (r.set 2 (.sh d))) else (.nx r)).seq fun r => ((lift ((((((getS 0 r) >>= fun d => (.ok []) >>= fun ds => .ok (d :: ds)) >>= one sumD) >>= fun x => (.ok (.int 2)) >>= fun y => modD x y) >>= fun x => (.ok (.int 1)) >>= fun y => eqD x y) >>= asB) r fun t => if t = true then (lift (getS 2 r) r fun d => .rt d) else (.nx r)).seq fun r => ((lift ((((((getS 2 r) >>= fun x => (.ok (.int 1000000007)) >>= fun y => modD x y) >>= fun x => ((.ok (.int 7919)) >>= fun x => (getS 1 r) >>= fun y => mulD x y) >>= fun y => addD x y) >>= fun x => (.ok (.int 11)) >>= fun y => addD x y) >>= fun x => (.ok (.int 48271)) >>= fun y => mulD x y) >>= fun x => (.ok (.int 2147483647)) >>= fun y => modD x y) r fun d => .nx (r.set 3 (.sh d))).seq fun r => (lift ((((((getS 3 r) >>= fun x => (.ok (.int 69621)) >>= fun y => mulD x y) >>= fun x => ((.ok (.int 17)) >>= fun x => (getS 1 r) >>= fun y => mulD x y) >>= fun y => addD x y) >>= fun x => (.ok (.int 2147483629)) >>= fun y => modD x y) >>= fun x => (.ok (.int 2147483647)) >>= fun y => mulD x y) >>= fun x => (((getS 3 r) >>= fun x => (.ok (.int 16807)) >>= fun y => mulD x y) >>= fun x => (.ok (.int 2147483647)) >>= fun y => modD x y) >>= fun y => addD x y) r fun d => .rt d))))
def d_q_cell : List D → Res D := runD 2 N_q_cell.length e_q_cell
def q_members_l1 : D → Env → Oc := fun d r => (into ((nameG 5) d r)).seq fun r => (appG 3 (fun r => (getS 4 r) >>= fun x => (((getS 5 r) >>= fun d => (.ok []) >>= fun ds => .ok (d :: ds)) >>= tupD) >>= fun y => addD x y) r)
def q_members_l2 : D → Env → Oc := fun d r => (into ((nameG 4) d r)).seq fun r => (lift (((getS 2 r) >>= fun d => (.ok []) >>= fun ds => .ok (d :: ds)) >>= rng1) r fun ds => forD (q_members_l1) ds r)
def q_members_l3 : D → Env → Oc := fun d r => (into ((nameG 2) d r)).seq fun r => ((lift ((.ok []) >>= lstD) r fun d => .nx (r.set 3 (.ow .flat d))).seq fun r => ((lift ((getS 1 r) >>= itemsD) r fun ds => forD (q_members_l2) ds r).seq fun r => (frzAt 3 (fun r => lift (getS 3 r) r fun d => .nx (r.set 1 (.sh d))) r)))
def e_q_members : Env → Oc := fun r => (lift ((((.ok []) >>= tupD) >>= fun d => (.ok []) >>= fun ds => .ok (d :: ds)) >>= lstD) r fun d => .nx (r.set 1 (.sh d))).seq fun r => ((lift ((getS 0 r) >>= itemsD) r fun ds => forD (q_members_l3) ds r).seq fun r => (lift (getS 1 r) r fun d => .rt d))
def d_q_members : List D → Res D := runD 1 N_q_members.length e_q_members
def q_element_l1 : D → Env → Oc := fun d r => (into ((nameG 3) d r)).seq fun r => ((appG 2 (fun r => (getS 1 r) >>= fun x => (getS 3 r) >>= fun y => modD x y) r).seq fun r => (lift ((getS 1 r) >>= fun x => (getS 3 r) >>= fun y => divD x y) r fun d => .nx (r.set 1 (.sh d))))
def e_q_element : Env → Oc := fun r => (lift ((.ok []) >>= lstD) r fun d => .nx (r.set 2 (.ow .flat d))).seq fun r => ((lift ((getS 0 r) >>= itemsD) r fun ds => forD (q_element_l1) ds r).seq fun r => (lift (((getR 2 r) >>= fun d => (.ok []) >>= fun ds => .ok (d :: ds)) >>= one tupleD) r fun d => .rt d))
def d_q_element : List D → Res D := runD 2 N_q_element.length e_q_element
def q_added_c1 (r : Env) (ds : List D) : Res (List D) := lcD (nameG 3)
  (fun r => .ok true)
  (fun r => (((getS 1 r) >>= fun x => (getS 3 r) >>= fun y => ixD x y) >>= fun x => ((getS 2 r) >>= fun x => (getS 3 r) >>= fun y => ixD x y) >>= fun y => addD x y) >>= fun x => ((getS 0 r) >>= fun x => (getS 3 r) >>= fun y => ixD x y) >>= fun y => modD x y)
  (wipeR r [3]) ds
def e_q_added : Env → Oc := fun r => lift ((((((((getS 0 r) >>= fun d => (.ok []) >>= fun ds => .ok (d :: ds)) >>= one lenD) >>= fun d => (.ok []) >>= fun ds => .ok (d :: ds)) >>= rng1) >>= fun ds => q_added_c1 r ds >>= lstD) >>= fun d => (.ok []) >>= fun ds => .ok (d :: ds)) >>= one tupleD) r fun d => .rt d
def d_q_added : List D → Res D := runD 3 N_q_added.length e_q_added
def q_times_c1 (r : Env) (ds : List D) : Res (List D) := lcD (nameG 3)
  (fun r => .ok true)
  (fun r => ((getS 1 r) >>= fun x => ((getS 2 r) >>= fun x => (getS 3 r) >>= fun y => ixD x y) >>= fun y => mulD x y) >>= fun x => ((getS 0 r) >>= fun x => (getS 3 r) >>= fun y => ixD x y) >>= fun y => modD x y)
  (wipeR r [3]) ds
def e_q_times : Env → Oc := fun r => lift ((((((((getS 0 r) >>= fun d => (.ok []) >>= fun ds => .ok (d :: ds)) >>= one lenD) >>= fun d => (.ok []) >>= fun ds => .ok (d :: ds)) >>= rng1) >>= fun ds => q_times_c1 r ds >>= lstD) >>= fun d => (.ok []) >>= fun ds => .ok (d :: ds)) >>= one tupleD) r fun d => .rt d
def d_q_times : List D → Res D := runD 3 N_q_times.length e_q_times
def q_table_l1 : D → Env → Oc := fun d r => (into ((tupG 2 (consG (nameG 5) (consG (nameG 6) (nilG)))) d r)).seq fun r => (setG 4 (fun r => ((getS 0 r) >>= fun d => ((((getS 2 r) >>= fun x => (.ok (.int 1)) >>= fun y => ixD x y) >>= fun x => (((.ok (.int 7)) >>= fun x => (getS 5 r) >>= fun y => mulD x y) >>= fun x => (.ok (.int 1)) >>= fun y => addD x y) >>= fun y => divD x y) >>= fun d => (.ok []) >>= fun ds => .ok (d :: ds)) >>= fun ds => .ok (d :: ds)) >>= d_q_element) (fun r => getS 6 r) r)
def q_table_l2 : D → Env → Oc := fun d r => (into ((nameG 10) d r)).seq fun r => (lift (((((getS 6 r) >>= fun x => (getS 10 r) >>= fun y => ixD x y) >>= fun x => ((getS 8 r) >>= fun x => (getS 10 r) >>= fun y => ixD x y) >>= fun y => addD x y) >>= fun x => ((getS 1 r) >>= fun x => (getS 10 r) >>= fun y => ixD x y) >>= fun y => geD x y) >>= asB) r fun t => if t = true then (lift (((getS 0 r) >>= fun d => ((getS 9 r) >>= fun d => ((((getS 0 r) >>= fun d => ((((getS 2 r) >>= fun x => (.ok (.int 0)) >>= fun y => ixD x y) >>= fun x => (((.ok (.int 5)) >>= fun x => (getS 10 r) >>= fun y => mulD x y) >>= fun x => (.ok (.int 1)) >>= fun y => addD x y) >>= fun y => divD x y) >>= fun d => (.ok []) >>= fun ds => .ok (d :: ds)) >>= fun ds => .ok (d :: ds)) >>= d_q_element) >>= fun d => (.ok []) >>= fun ds => .ok (d :: ds)) >>= fun ds => .ok (d :: ds)) >>= fun ds => .ok (d :: ds)) >>= d_q_added) r fun d => .nx (r.set 9 (.sh d))) else (.nx r))
def q_table_l3 : D → Env → Oc := fun d r => (into ((nameG 8) d r)).seq fun r => ((lift (((getS 0 r) >>= fun d => (((getR 4 r) >>= fun x => (getS 6 r) >>= fun y => ixD x y) >>= fun d => (((getR 4 r) >>= fun x => (getS 8 r) >>= fun y => ixD x y) >>= fun d => (.ok []) >>= fun ds => .ok (d :: ds)) >>= fun ds => .ok (d :: ds)) >>= fun ds => .ok (d :: ds)) >>= d_q_added) r fun d => .nx (r.set 9 (.sh d))).seq fun r => ((lift (((getS 0 r) >>= fun d => ((getS 9 r) >>= fun d => ((((getS 0 r) >>= fun d => (((.ok (.int 1)) >>= negD) >>= fun d => (((getR 4 r) >>= fun x => (((getS 1 r) >>= fun d => ((getS 6 r) >>= fun d => ((getS 8 r) >>= fun d => (.ok []) >>= fun ds => .ok (d :: ds)) >>= fun ds => .ok (d :: ds)) >>= fun ds => .ok (d :: ds)) >>= d_q_added) >>= fun y => ixD x y) >>= fun d => (.ok []) >>= fun ds => .ok (d :: ds)) >>= fun ds => .ok (d :: ds)) >>= fun ds => .ok (d :: ds)) >>= d_q_times) >>= fun d => (.ok []) >>= fun ds => .ok (d :: ds)) >>= fun ds => .ok (d :: ds)) >>= fun ds => .ok (d :: ds)) >>= d_q_added) r fun d => .nx (r.set 9 (.sh d))).seq fun r => ((lift (((((getS 1 r) >>= fun d => (.ok []) >>= fun ds => .ok (d :: ds)) >>= one lenD) >>= fun d => (.ok []) >>= fun ds => .ok (d :: ds)) >>= rng1) r fun ds => forD (q_table_l2) ds r).seq fun r => (setG 7 (fun r => getS 9 r) (fun r => ((getS 6 r) >>= fun d => ((getS 8 r) >>= fun d => (.ok []) >>= fun ds => .ok (d :: ds)) >>= fun ds => .ok (d :: ds)) >>= tupD) r))))
def q_table_l4 : D → Env → Oc := fun d r => (into ((nameG 6) d r)).seq fun r => (lift ((getS 3 r) >>= itemsD) r fun ds => forD (q_table_l3) ds r)
def e_q_table : Env → Oc := fun r => (lift (((getS 1 r) >>= fun d => (.ok []) >>= fun ds => .ok (d :: ds)) >>= d_q_members) r fun d => .nx (r.set 3 (.sh d))).seq fun r => ((lift (.ok (.dic [] [])) r fun d => .nx (r.set 4 (.ow .flat d))).seq fun r => ((lift (((getS 3 r) >>= fun d => (.ok []) >>= fun ds => .ok (d :: ds)) >>= enumS) r fun ds => forD (q_table_l1) ds r).seq fun r => ((lift (.ok (.dic [] [])) r fun d => .nx (r.set 7 (.ow .flat d))).seq fun r => ((lift ((getS 3 r) >>= itemsD) r fun ds => forD (q_table_l4) ds r).seq fun r => (frzAt 7 (fun r => lift (getS 7 r) r fun d => .rt d) r)))))
def d_q_table : List D → Res D := runD 3 N_q_table.length e_q_table
def q_paired_l1 : D → Env → Oc := fun d r => (into ((tupG 2 (consG (nameG 7) (consG (nameG 8) (nilG)))) d r)).seq fun r => (setG 6 (fun r => ((getS 0 r) >>= fun d => (((getS 2 r) >>= fun x => (((getS 7 r) >>= fun d => ((getS 8 r) >>= fun d => (.ok []) >>= fun ds => .ok (d :: ds)) >>= fun ds => .ok (d :: ds)) >>= tupD) >>= fun y => ixD x y) >>= fun d => ((((getS 0 r) >>= fun d => ((((getS 7 r) >>= fun x => (getS 3 r) >>= fun y => ixD x y) >>= fun x => ((getS 8 r) >>= fun x => (getS 4 r) >>= fun y => ixD x y) >>= fun y => mulD x y) >>= fun d => ((getS 5 r) >>= fun d => (.ok []) >>= fun ds => .ok (d :: ds)) >>= fun ds => .ok (d :: ds)) >>= fun ds => .ok (d :: ds)) >>= d_q_times) >>= fun d => (.ok []) >>= fun ds => .ok (d :: ds)) >>= fun ds => .ok (d :: ds)) >>= fun ds => .ok (d :: ds)) >>= d_q_added) (fun r => ((getS 7 r) >>= fun d => ((getS 8 r) >>= fun d => (.ok []) >>= fun ds => .ok (d :: ds)) >>= fun ds => .ok (d :: ds)) >>= tupD) r)
def e_q_paired : Env → Oc := fun r => (lift (.ok (.dic [] [])) r fun d => .nx (r.set 6 (.ow .flat d))).seq fun r => ((lift ((getS 2 r) >>= itemsD) r fun ds => forD (q_paired_l1) ds r).seq fun r => (frzAt 6 (fun r => lift (getS 6 r) r fun d => .rt d) r))
def d_q_paired : List D → Res D := runD 6 N_q_paired.length e_q_paired
def q_gcd_w1c : Env → Res Bool := fun r => ((getS 1 r) >>= fun x => (.ok (.int 0)) >>= fun y => neD x y) >>= asB
def q_gcd_w1 : Env → Oc := fun r => (lift ((getS 1 r) >>= fun d => (((getS 0 r) >>= fun x => (getS 1 r) >>= fun y => modD x y) >>= fun d => (.ok []) >>= fun ds => .ok (d :: ds)) >>= fun ds => .ok (d :: ds)) r fun ds => parG 0 1 ds r)
def e_q_gcd : Env → Oc := fun r => (loopD q_gcd_w1c q_gcd_w1 r).seq fun r => (lift (getS 0 r) r fun d => .rt d)
def d_q_gcd : List D → Res D := runD 2 N_q_gcd.length e_q_gcd
def q_odd_element_l1 : D → Env → Oc := fun d r => (into ((nameG 5) d r)).seq fun r => ((lift (((getS 5 r) >>= fun d => ((((getS 1 r) >>= fun d => ((getS 2 r) >>= fun d => (.ok []) >>= fun ds => .ok (d :: ds)) >>= fun ds => .ok (d :: ds)) >>= d_q_gcd) >>= fun d => (.ok []) >>= fun ds => .ok (d :: ds)) >>= fun ds => .ok (d :: ds)) >>= d_q_gcd) r fun d => .nx (r.set 6 (.sh d))).seq fun r => ((appG 4 (fun r => ((getS 5 r) >>= fun x => (getS 6 r) >>= fun y => divD x y) >>= fun x => ((getS 3 r) >>= fun x => (getS 6 r) >>= fun y => modD x y) >>= fun y => mulD x y) r).seq fun r => (lift ((getS 3 r) >>= fun x => (getS 6 r) >>= fun y => divD x y) r fun d => .nx (r.set 3 (.sh d)))))
def e_q_odd_element : Env → Oc := fun r => (lift ((.ok []) >>= lstD) r fun d => .nx (r.set 4 (.ow .flat d))).seq fun r => ((lift ((getS 0 r) >>= itemsD) r fun ds => forD (q_odd_element_l1) ds r).seq fun r => (lift (((getR 4 r) >>= fun d => (.ok []) >>= fun ds => .ok (d :: ds)) >>= one tupleD) r fun d => .rt d))
def d_q_odd_element : List D → Res D := runD 4 N_q_odd_element.length e_q_odd_element
def e_q_ground : Env → Oc := fun r => (lift (((((getS 0 r) >>= fun d => ((.ok (.int 0)) >>= fun d => (.ok []) >>= fun ds => .ok (d :: ds)) >>= fun ds => .ok (d :: ds)) >>= d_q_cell) >>= fun d => ((.ok (.int 4)) >>= fun d => ((.ok (.int 4)) >>= fun d => (.ok []) >>= fun ds => .ok (d :: ds)) >>= fun ds => .ok (d :: ds)) >>= fun ds => .ok (d :: ds)) >>= d_q_rounds) r fun d => .nx (r.set 1 (.sh d))).seq fun r => ((lift (((((getS 0 r) >>= fun d => ((.ok (.int 1)) >>= fun d => (.ok []) >>= fun ds => .ok (d :: ds)) >>= fun ds => .ok (d :: ds)) >>= d_q_cell) >>= fun d => ((.ok (.int 4)) >>= fun d => ((.ok (.int 4)) >>= fun d => (.ok []) >>= fun ds => .ok (d :: ds)) >>= fun ds => .ok (d :: ds)) >>= fun ds => .ok (d :: ds)) >>= d_q_rounds) r fun d => .nx (r.set 2 (.sh d))).seq fun r => ((lift (((getS 0 r) >>= fun d => ((.ok (.int 2)) >>= fun d => (.ok []) >>= fun ds => .ok (d :: ds)) >>= fun ds => .ok (d :: ds)) >>= d_q_cell) r fun d => .nx (r.set 3 (.sh d))).seq fun r => ((lift ((((getS 3 r) >>= fun x => (.ok (.int 4)) >>= fun y => modD x y) >>= fun x => (.ok (.int 1)) >>= fun y => eqD x y) >>= asB) r fun t => if t = true then (lift (((.ok (.int 2)) >>= fun d => ((.ok (.int 2)) >>= fun d => (.ok []) >>= fun ds => .ok (d :: ds)) >>= fun ds => .ok (d :: ds)) >>= tupD) r fun d => .nx (r.set 2 (.sh d))) else (.nx r)).seq fun r => ((lift (((getS 1 r) >>= fun d => ((getS 2 r) >>= fun d => ((((((getS 0 r) >>= fun d => ((.ok (.int 3)) >>= fun d => (.ok []) >>= fun ds => .ok (d :: ds)) >>= fun ds => .ok (d :: ds)) >>= d_q_cell) >>= fun d => ((((getS 0 r) >>= fun d => ((.ok (.int 4)) >>= fun d => (.ok []) >>= fun ds => .ok (d :: ds)) >>= fun ds => .ok (d :: ds)) >>= d_q_cell) >>= fun d => (.ok []) >>= fun ds => .ok (d :: ds)) >>= fun ds => .ok (d :: ds)) >>= lstD) >>= fun d => (.ok []) >>= fun ds => .ok (d :: ds)) >>= fun ds => .ok (d :: ds)) >>= fun ds => .ok (d :: ds)) >>= d_q_table) r fun d => .nx (r.set 4 (.sh d))).seq fun r => ((lift ((((getS 3 r) >>= fun x => (.ok (.int 4)) >>= fun y => modD x y) >>= fun x => (.ok (.int 1)) >>= fun y => eqD x y) >>= asB) r fun t => if t = true then (lift (((getS 1 r) >>= fun d => ((getS 2 r) >>= fun d => ((getS 4 r) >>= fun d => ((.ok (.int 0)) >>= fun d => ((.ok (.int 1)) >>= fun d => ((((getS 1 r) >>= fun d => ((.ok (.int 2)) >>= fun d => ((.ok (.int 2)) >>= fun d => (((getS 3 r) >>= fun x => (.ok (.int 4)) >>= fun y => divD x y) >>= fun d => (.ok []) >>= fun ds => .ok (d :: ds)) >>= fun ds => .ok (d :: ds)) >>= fun ds => .ok (d :: ds)) >>= fun ds => .ok (d :: ds)) >>= d_q_odd_element) >>= fun d => (.ok []) >>= fun ds => .ok (d :: ds)) >>= fun ds => .ok (d :: ds)) >>= fun ds => .ok (d :: ds)) >>= fun ds => .ok (d :: ds)) >>= fun ds => .ok (d :: ds)) >>= fun ds => .ok (d :: ds)) >>= d_q_paired) r fun d => .nx (r.set 4 (.sh d))) else (.nx r)).seq fun r => (lift (((getS 1 r) >>= fun d => ((getS 2 r) >>= fun d => ((getS 4 r) >>= fun d => (.ok []) >>= fun ds => .ok (d :: ds)) >>= fun ds => .ok (d :: ds)) >>= fun ds => .ok (d :: ds)) >>= tupD) r fun d => .rt d))))))
def d_q_ground : List D → Res D := runD 1 N_q_ground.length e_q_ground
def Rounds_members_c1 (r : Env) (ds : List D) : Res (List D) := lcD (nameG 5)
  (fun r => .ok true)
  (fun r => (getS 4 r) >>= fun x => (((getS 5 r) >>= fun d => (.ok []) >>= fun ds => .ok (d :: ds)) >>= tupD) >>= fun y => addD x y)
  (wipeR r [5]) ds
def Rounds_members_l2 : D → Env → Oc := fun d r => (into ((nameG 4) d r)).seq fun r => (extG 3 (fun r => (((getS 2 r) >>= fun d => (.ok []) >>= fun ds => .ok (d :: ds)) >>= rng1) >>= fun ds => Rounds_members_c1 r ds >>= lstD) r)
def Rounds_members_l3 : D → Env → Oc := fun d r => (into ((nameG 2) d r)).seq fun r => ((lift ((.ok []) >>= lstD) r fun d => .nx (r.set 3 (.ow .flat d))).seq fun r => ((lift ((getS 1 r) >>= itemsD) r fun ds => forD (Rounds_members_l2) ds r).seq fun r => (frzAt 3 (fun r => lift (getS 3 r) r fun d => .nx (r.set 1 (.sh d))) r)))
def e_Rounds_members : Env → Oc := fun r => (lift ((((.ok []) >>= tupD) >>= fun d => (.ok []) >>= fun ds => .ok (d :: ds)) >>= lstD) r fun d => .nx (r.set 1 (.sh d))).seq fun r => ((lift (((getS 0 r) >>= fldD (plOf [0] "rounds")) >>= itemsD) r fun ds => forD (Rounds_members_l3) ds r).seq fun r => (lift (getS 1 r) r fun d => .rt d))
def d_Rounds_members : List D → Res D := runD 1 N_Rounds_members.length e_Rounds_members
def mt_members (c : Nat) : Option (List D → Res D) := if c = 0 then some d_Rounds_members else none
def Tower_members_c1 (r : Env) (ds : List D) : Res (List D) := lcD (nameG 3)
  (fun r => .ok true)
  (fun r => ((getS 2 r) >>= fun d => ((getS 3 r) >>= fun d => (.ok []) >>= fun ds => .ok (d :: ds)) >>= fun ds => .ok (d :: ds)) >>= tupD)
  (wipeR r [3]) ds
def Tower_members_l2 : D → Env → Oc := fun d r => (into ((nameG 2) d r)).seq fun r => (extG 1 (fun r => (((((getS 0 r) >>= fldD (plOf [1] "table")) >>= fldD (plOf [2] "upper")) >>= fun d => mthD mt_members d >>= fun g => g []) >>= itemsD) >>= fun ds => Tower_members_c1 r ds >>= lstD) r)
def e_Tower_members : Env → Oc := fun r => (lift ((.ok []) >>= lstD) r fun d => .nx (r.set 1 (.ow .flat d))).seq fun r => ((lift (((((getS 0 r) >>= fldD (plOf [1] "table")) >>= fldD (plOf [2] "lower")) >>= fun d => mthD mt_members d >>= fun g => g []) >>= itemsD) r fun ds => forD (Tower_members_l2) ds r).seq fun r => (frzAt 1 (fun r => lift (getS 1 r) r fun d => .rt d) r))
def d_Tower_members : List D → Res D := runD 1 N_Tower_members.length e_Tower_members
def mt_members_T (c : Nat) : Option (List D → Res D) := if c = 0 then some d_Rounds_members else if c = 1 then some d_Tower_members else none
def e_is_whole : Env → Oc := fun r => lift (((((getS 0 r) >>= fun d => ((.ok (.ty "int")) >>= fun d => (.ok []) >>= fun ds => .ok (d :: ds)) >>= fun ds => .ok (d :: ds)) >>= two (isD isC isU)) >>= asB) >>= fun t => if t = true then (((((getS 0 r) >>= fun d => ((.ok (.ty "bool")) >>= fun d => (.ok []) >>= fun ds => .ok (d :: ds)) >>= fun ds => .ok (d :: ds)) >>= two (isD isC isU)) >>= asB) >>= fun t => .ok (.bl (!t))) else .ok (.bl false)) r fun d => .rt d
def d_is_whole : List D → Res D := runD 1 N_is_whole.length e_is_whole
def Rounds_has_l1 : D → Env → Oc := fun d r => (into ((tupG 2 (consG (nameG 2) (consG (nameG 3) (nilG)))) d r)).seq fun r => (lift ((((((getS 2 r) >>= fun d => (.ok []) >>= fun ds => .ok (d :: ds)) >>= d_is_whole) >>= asB) >>= fun t => .ok (!t)) >>= fun t => if t = true then .ok true else ((((getS 2 r) >>= fun x => (.ok (.int 0)) >>= fun y => ltD x y) >>= asB) >>= fun t => if t = true then .ok true else (((getS 2 r) >>= fun x => (getS 3 r) >>= fun y => geD x y) >>= asB))) r fun t => if t = true then (lift (.ok (.bl false)) r fun d => .rt d) else (.nx r))
def e_Rounds_has : Env → Oc := fun r => (lift ((((((getS 1 r) >>= fun d => ((.ok (.ty "tuple")) >>= fun d => (.ok []) >>= fun ds => .ok (d :: ds)) >>= fun ds => .ok (d :: ds)) >>= two (isD isC isU)) >>= asB) >>= fun t => .ok (!t)) >>= fun t => if t = true then .ok true else (((((getS 1 r) >>= fun d => (.ok []) >>= fun ds => .ok (d :: ds)) >>= one lenD) >>= fun x => ((((getS 0 r) >>= fldD (plOf [0] "rounds")) >>= fun d => (.ok []) >>= fun ds => .ok (d :: ds)) >>= one lenD) >>= fun y => neD x y) >>= asB)) r fun t => if t = true then (lift (.ok (.bl false)) r fun d => .rt d) else (.nx r)).seq fun r => ((lift (((getS 1 r) >>= fun d => (((getS 0 r) >>= fldD (plOf [0] "rounds")) >>= fun d => (.ok []) >>= fun ds => .ok (d :: ds)) >>= fun ds => .ok (d :: ds)) >>= zip2D) r fun ds => forD (Rounds_has_l1) ds r).seq fun r => (lift (.ok (.bl true)) r fun d => .rt d))
def d_Rounds_has : List D → Res D := runD 2 N_Rounds_has.length e_Rounds_has
def mt_has (c : Nat) : Option (List D → Res D) := if c = 0 then some d_Rounds_has else none
def e_Group_look_at : Env → Oc := fun r => lift ((((getS 0 r) >>= fun d => mthD mt_has d >>= fun g => ((getS 1 r) >>= fun d => (.ok []) >>= fun ds => .ok (d :: ds)) >>= g) >>= asB) >>= fun t => .ok (!t)) r fun t => if t = true then (.er (.exc 12 []) r) else (.nx r)
def d_Group_look_at : List D → Res D := runD 2 N_Group_look_at.length e_Group_look_at
def mt_look_at (c : Nat) : Option (List D → Res D) := if c = 0 then some d_Group_look_at else none
def Rounds_put_c1 (r : Env) (ds : List D) : Res (List D) := lcD (tupG 3 (consG (nameG 3) (consG (nameG 4) (consG (nameG 5) (nilG)))))
  (fun r => .ok true)
  (fun r => ((getS 3 r) >>= fun x => (getS 4 r) >>= fun y => addD x y) >>= fun x => (getS 5 r) >>= fun y => modD x y)
  (wipeR r [3, 4, 5]) ds
def e_Rounds_put : Env → Oc := fun r => lift ((((((getS 1 r) >>= fun d => ((getS 2 r) >>= fun d => (((getS 0 r) >>= fldD (plOf [0] "rounds")) >>= fun d => (.ok []) >>= fun ds => .ok (d :: ds)) >>= fun ds => .ok (d :: ds)) >>= fun ds => .ok (d :: ds)) >>= zip3D) >>= fun ds => Rounds_put_c1 r ds >>= lstD) >>= fun d => (.ok []) >>= fun ds => .ok (d :: ds)) >>= one tupleD) r fun d => .rt d
def d_Rounds_put : List D → Res D := runD 3 N_Rounds_put.length e_Rounds_put
def mt_put (c : Nat) : Option (List D → Res D) := if c = 0 then some d_Rounds_put else none
def e_Group_added : Env → Oc := fun r => (lift ((getS 0 r) >>= fun d => mthD mt_look_at d >>= fun g => ((getS 1 r) >>= fun d => (.ok []) >>= fun ds => .ok (d :: ds)) >>= g) r fun _ => .nx r).seq fun r => ((lift ((getS 0 r) >>= fun d => mthD mt_look_at d >>= fun g => ((getS 2 r) >>= fun d => (.ok []) >>= fun ds => .ok (d :: ds)) >>= g) r fun _ => .nx r).seq fun r => (lift ((getS 0 r) >>= fun d => mthD mt_put d >>= fun g => ((getS 1 r) >>= fun d => ((getS 2 r) >>= fun d => (.ok []) >>= fun ds => .ok (d :: ds)) >>= fun ds => .ok (d :: ds)) >>= g) r fun d => .rt d))
def d_Group_added : List D → Res D := runD 3 N_Group_added.length e_Group_added
def e_Tower_has : Env → Oc := fun r => (lift ((((((getS 1 r) >>= fun d => ((.ok (.ty "tuple")) >>= fun d => (.ok []) >>= fun ds => .ok (d :: ds)) >>= fun ds => .ok (d :: ds)) >>= two (isD isC isU)) >>= asB) >>= fun t => .ok (!t)) >>= fun t => if t = true then .ok true else (((((getS 1 r) >>= fun d => (.ok []) >>= fun ds => .ok (d :: ds)) >>= one lenD) >>= fun x => (.ok (.int 2)) >>= fun y => neD x y) >>= asB)) r fun t => if t = true then (lift (.ok (.bl false)) r fun d => .rt d) else (.nx r)).seq fun r => (lift ((((((getS 0 r) >>= fldD (plOf [1] "table")) >>= fldD (plOf [2] "lower")) >>= fun d => mthD mt_has d >>= fun g => (((getS 1 r) >>= fun x => (.ok (.int 0)) >>= fun y => ixD x y) >>= fun d => (.ok []) >>= fun ds => .ok (d :: ds)) >>= g) >>= asB) >>= fun t => if t = true then ((((getS 0 r) >>= fldD (plOf [1] "table")) >>= fldD (plOf [2] "upper")) >>= fun d => mthD mt_has d >>= fun g => (((getS 1 r) >>= fun x => (.ok (.int 1)) >>= fun y => ixD x y) >>= fun d => (.ok []) >>= fun ds => .ok (d :: ds)) >>= g) else .ok (.bl false)) r fun d => .rt d)
def d_Tower_has : List D → Res D := runD 2 N_Tower_has.length e_Tower_has
def mt_has_T (c : Nat) : Option (List D → Res D) := if c = 0 then some d_Rounds_has else if c = 1 then some d_Tower_has else none
def e_Group_look_at_1 : Env → Oc := fun r => lift ((((getS 0 r) >>= fun d => mthD mt_has_T d >>= fun g => ((getS 1 r) >>= fun d => (.ok []) >>= fun ds => .ok (d :: ds)) >>= g) >>= asB) >>= fun t => .ok (!t)) r fun t => if t = true then (.er (.exc 12 []) r) else (.nx r)
def d_Group_look_at_1 : List D → Res D := runD 2 N_Group_look_at.length e_Group_look_at_1
def mt_look_at_T (c : Nat) : Option (List D → Res D) := if c = 0 then some d_Group_look_at else if c = 1 then some d_Group_look_at_1 else none
def e_Table_carry : Env → Oc := fun r => (lift ((((((getS 0 r) >>= fldD (plOf [2] "upper")) >>= fun d => mthD mt_has d >>= fun g => ((getS 1 r) >>= fun d => (.ok []) >>= fun ds => .ok (d :: ds)) >>= g) >>= asB) >>= fun t => .ok (!t)) >>= fun t => if t = true then .ok true else (((((getS 0 r) >>= fldD (plOf [2] "upper")) >>= fun d => mthD mt_has d >>= fun g => ((getS 2 r) >>= fun d => (.ok []) >>= fun ds => .ok (d :: ds)) >>= g) >>= asB) >>= fun t => .ok (!t))) r fun t => if t = true then (.er (.exc 12 []) r) else (.nx r)).seq fun r => (lift (((getS 0 r) >>= fldD (plOf [2] "kept")) >>= fun x => (((getS 1 r) >>= fun d => ((getS 2 r) >>= fun d => (.ok []) >>= fun ds => .ok (d :: ds)) >>= fun ds => .ok (d :: ds)) >>= tupD) >>= fun y => ixD x y) r fun d => .rt d)
def d_Table_carry : List D → Res D := runD 3 N_Table_carry.length e_Table_carry
def mt_carry (c : Nat) : Option (List D → Res D) := if c = 2 then some d_Table_carry else none
def e_Tower_put : Env → Oc := fun r => (lift (((getS 0 r) >>= fldD (plOf [1] "table")) >>= fldD (plOf [2] "lower")) r fun d => .nx (r.set 3 (.sh d))).seq fun r => ((lift (((getS 0 r) >>= fldD (plOf [1] "table")) >>= fun d => mthD mt_carry d >>= fun g => (((getS 1 r) >>= fun x => (.ok (.int 1)) >>= fun y => ixD x y) >>= fun d => (((getS 2 r) >>= fun x => (.ok (.int 1)) >>= fun y => ixD x y) >>= fun d => (.ok []) >>= fun ds => .ok (d :: ds)) >>= fun ds => .ok (d :: ds)) >>= g) r fun d => .nx (r.set 4 (.sh d))).seq fun r => (lift ((((getS 3 r) >>= fun d => mthD mt_put d >>= fun g => (((getS 3 r) >>= fun d => mthD mt_put d >>= fun g => (((getS 1 r) >>= fun x => (.ok (.int 0)) >>= fun y => ixD x y) >>= fun d => (((getS 2 r) >>= fun x => (.ok (.int 0)) >>= fun y => ixD x y) >>= fun d => (.ok []) >>= fun ds => .ok (d :: ds)) >>= fun ds => .ok (d :: ds)) >>= g) >>= fun d => ((getS 4 r) >>= fun d => (.ok []) >>= fun ds => .ok (d :: ds)) >>= fun ds => .ok (d :: ds)) >>= g) >>= fun d => (((((getS 0 r) >>= fldD (plOf [1] "table")) >>= fldD (plOf [2] "upper")) >>= fun d => mthD mt_put d >>= fun g => (((getS 1 r) >>= fun x => (.ok (.int 1)) >>= fun y => ixD x y) >>= fun d => (((getS 2 r) >>= fun x => (.ok (.int 1)) >>= fun y => ixD x y) >>= fun d => (.ok []) >>= fun ds => .ok (d :: ds)) >>= fun ds => .ok (d :: ds)) >>= g) >>= fun d => (.ok []) >>= fun ds => .ok (d :: ds)) >>= fun ds => .ok (d :: ds)) >>= tupD) r fun d => .rt d))
def d_Tower_put : List D → Res D := runD 3 N_Tower_put.length e_Tower_put
def mt_put_T (c : Nat) : Option (List D → Res D) := if c = 0 then some d_Rounds_put else if c = 1 then some d_Tower_put else none
def e_Group_added_1 : Env → Oc := fun r => (lift ((getS 0 r) >>= fun d => mthD mt_look_at_T d >>= fun g => ((getS 1 r) >>= fun d => (.ok []) >>= fun ds => .ok (d :: ds)) >>= g) r fun _ => .nx r).seq fun r => ((lift ((getS 0 r) >>= fun d => mthD mt_look_at_T d >>= fun g => ((getS 2 r) >>= fun d => (.ok []) >>= fun ds => .ok (d :: ds)) >>= g) r fun _ => .nx r).seq fun r => (lift ((getS 0 r) >>= fun d => mthD mt_put_T d >>= fun g => ((getS 1 r) >>= fun d => ((getS 2 r) >>= fun d => (.ok []) >>= fun ds => .ok (d :: ds)) >>= fun ds => .ok (d :: ds)) >>= g) r fun d => .rt d))
def d_Group_added_1 : List D → Res D := runD 3 N_Group_added.length e_Group_added_1
def mt_added_T (c : Nat) : Option (List D → Res D) := if c = 0 then some d_Group_added else if c = 1 then some d_Group_added_1 else none
def break_of_three_l1 : D → Env → Oc := fun d r => (into ((nameG 6) d r)).seq fun r => ((lift ((getS 1 r) >>= fun d => mthD mt_added_T d >>= fun g => (((getS 0 r) >>= fun d => mthD mt_carry d >>= fun g => ((getS 4 r) >>= fun d => ((getS 5 r) >>= fun d => (.ok []) >>= fun ds => .ok (d :: ds)) >>= fun ds => .ok (d :: ds)) >>= g) >>= fun d => (((getS 0 r) >>= fun d => mthD mt_carry d >>= fun g => (((getS 2 r) >>= fun d => mthD mt_added_T d >>= fun g => ((getS 4 r) >>= fun d => ((getS 5 r) >>= fun d => (.ok []) >>= fun ds => .ok (d :: ds)) >>= fun ds => .ok (d :: ds)) >>= g) >>= fun d => ((getS 6 r) >>= fun d => (.ok []) >>= fun ds => .ok (d :: ds)) >>= fun ds => .ok (d :: ds)) >>= g) >>= fun d => (.ok []) >>= fun ds => .ok (d :: ds)) >>= fun ds => .ok (d :: ds)) >>= g) r fun d => .nx (r.set 7 (.sh d))).seq fun r => ((lift ((getS 1 r) >>= fun d => mthD mt_added_T d >>= fun g => (((getS 0 r) >>= fun d => mthD mt_carry d >>= fun g => ((getS 5 r) >>= fun d => ((getS 6 r) >>= fun d => (.ok []) >>= fun ds => .ok (d :: ds)) >>= fun ds => .ok (d :: ds)) >>= g) >>= fun d => (((getS 0 r) >>= fun d => mthD mt_carry d >>= fun g => ((getS 4 r) >>= fun d => (((getS 2 r) >>= fun d => mthD mt_added_T d >>= fun g => ((getS 5 r) >>= fun d => ((getS 6 r) >>= fun d => (.ok []) >>= fun ds => .ok (d :: ds)) >>= fun ds => .ok (d :: ds)) >>= g) >>= fun d => (.ok []) >>= fun ds => .ok (d :: ds)) >>= fun ds => .ok (d :: ds)) >>= g) >>= fun d => (.ok []) >>= fun ds => .ok (d :: ds)) >>= fun ds => .ok (d :: ds)) >>= g) r fun d => .nx (r.set 8 (.sh d))).seq fun r => (lift (((getS 7 r) >>= fun x => (getS 8 r) >>= fun y => neD x y) >>= asB) r fun t => if t = true then (lift (((getS 4 r) >>= fun d => ((getS 5 r) >>= fun d => ((getS 6 r) >>= fun d => (.ok []) >>= fun ds => .ok (d :: ds)) >>= fun ds => .ok (d :: ds)) >>= fun ds => .ok (d :: ds)) >>= tupD) r fun d => .rt d) else (.nx r))))
def break_of_three_l2 : D → Env → Oc := fun d r => (into ((nameG 5) d r)).seq fun r => (lift ((getS 3 r) >>= itemsD) r fun ds => forD (break_of_three_l1) ds r)
def break_of_three_l3 : D → Env → Oc := fun d r => (into ((nameG 4) d r)).seq fun r => (lift ((getS 3 r) >>= itemsD) r fun ds => forD (break_of_three_l2) ds r)
def e_break_of_three : Env → Oc := fun r => (lift ((getS 0 r) >>= fldD (plOf [2] "lower")) r fun d => .nx (r.set 1 (.sh d))).seq fun r => ((lift ((getS 0 r) >>= fldD (plOf [2] "upper")) r fun d => .nx (r.set 2 (.sh d))).seq fun r => ((lift ((getS 2 r) >>= fun d => mthD mt_members_T d >>= fun g => g []) r fun d => .nx (r.set 3 (.sh d))).seq fun r => ((lift ((getS 3 r) >>= itemsD) r fun ds => forD (break_of_three_l3) ds r).seq fun r => (lift (.ok .non) r fun d => .rt d))))
def d_break_of_three : List D → Res D := runD 1 N_break_of_three.length e_break_of_three
def Rounds_nought_c1 (r : Env) (ds : List D) : Res (List D) := lcD (nameG 1)
  (fun r => .ok true)
  (fun r => .ok (.int 0))
  (wipeR r [1]) ds
def e_Rounds_nought : Env → Oc := fun r => lift ((((((getS 0 r) >>= fldD (plOf [0] "rounds")) >>= itemsD) >>= fun ds => Rounds_nought_c1 r ds >>= lstD) >>= fun d => (.ok []) >>= fun ds => .ok (d :: ds)) >>= one tupleD) r fun d => .rt d
def d_Rounds_nought : List D → Res D := runD 1 N_Rounds_nought.length e_Rounds_nought
def mt_nought (c : Nat) : Option (List D → Res D) := if c = 0 then some d_Rounds_nought else none
def e_Tower_init : Env → Oc := fun r => (lift (((getS 1 r) >>= fun d => (.ok []) >>= fun ds => .ok (d :: ds)) >>= d_break_of_three) r fun d => .nx (r.set 2 (.sh d))).seq fun r => ((lift (((getS 2 r) >>= fun x => (.ok .non) >>= fun y => notN x y) >>= asB) r fun t => if t = true then (lift ((getS 2 r) >>= fun d => (.ok []) >>= fun ds => .ok (d :: ds)) r fun ds => raiseD 24 ds r) else (.nx r)).seq fun r => ((lift (getS 1 r) r fun d => setF 0 1 "table" .sh d r).seq fun r => (lift ((getS 1 r) >>= fun d => mthD mt_carry d >>= fun g => ((((getS 1 r) >>= fldD (plOf [2] "upper")) >>= fun d => mthD mt_nought d >>= fun g => g []) >>= fun d => ((((getS 1 r) >>= fldD (plOf [2] "upper")) >>= fun d => mthD mt_nought d >>= fun g => g []) >>= fun d => (.ok []) >>= fun ds => .ok (d :: ds)) >>= fun ds => .ok (d :: ds)) >>= g) r fun d => setF 0 1 "ground" .sh d r)))
def d_Tower_init : List D → Res D := runI 1 N_Tower_init.length 1 e_Tower_init
def e_Group_size : Env → Oc := fun r => lift ((((getS 0 r) >>= fun d => mthD mt_members d >>= fun g => g []) >>= fun d => (.ok []) >>= fun ds => .ok (d :: ds)) >>= one lenD) r fun d => .rt d
def d_Group_size : List D → Res D := runD 1 N_Group_size.length e_Group_size
def e_Group_size_1 : Env → Oc := fun r => lift ((((getS 0 r) >>= fun d => mthD mt_members_T d >>= fun g => g []) >>= fun d => (.ok []) >>= fun ds => .ok (d :: ds)) >>= one lenD) r fun d => .rt d
def d_Group_size_1 : List D → Res D := runD 1 N_Group_size.length e_Group_size_1
def mt_size_T (c : Nat) : Option (List D → Res D) := if c = 0 then some d_Group_size else if c = 1 then some d_Group_size_1 else none
def e_Rounds_is_even : Env → Oc := fun r => lift (.ok (.bl true)) r fun d => .rt d
def d_Rounds_is_even : List D → Res D := runD 1 N_Rounds_is_even.length e_Rounds_is_even
def break_of_two_l1 : D → Env → Oc := fun d r => (into ((nameG 3) d r)).seq fun r => (lift ((((getS 0 r) >>= fun d => mthD mt_carry d >>= fun g => ((getS 2 r) >>= fun d => ((getS 3 r) >>= fun d => (.ok []) >>= fun ds => .ok (d :: ds)) >>= fun ds => .ok (d :: ds)) >>= g) >>= fun x => ((getS 0 r) >>= fun d => mthD mt_carry d >>= fun g => ((getS 3 r) >>= fun d => ((getS 2 r) >>= fun d => (.ok []) >>= fun ds => .ok (d :: ds)) >>= fun ds => .ok (d :: ds)) >>= g) >>= fun y => neD x y) >>= asB) r fun t => if t = true then (lift (((getS 2 r) >>= fun d => ((getS 3 r) >>= fun d => (.ok []) >>= fun ds => .ok (d :: ds)) >>= fun ds => .ok (d :: ds)) >>= tupD) r fun d => .rt d) else (.nx r))
def break_of_two_l2 : D → Env → Oc := fun d r => (into ((nameG 2) d r)).seq fun r => (lift ((getS 1 r) >>= itemsD) r fun ds => forD (break_of_two_l1) ds r)
def e_break_of_two : Env → Oc := fun r => (lift (((getS 0 r) >>= fldD (plOf [2] "upper")) >>= fun d => mthD mt_members d >>= fun g => g []) r fun d => .nx (r.set 1 (.sh d))).seq fun r => ((lift ((getS 1 r) >>= itemsD) r fun ds => forD (break_of_two_l2) ds r).seq fun r => (lift (.ok .non) r fun d => .rt d))
def d_break_of_two : List D → Res D := runD 1 N_break_of_two.length e_break_of_two
def e_Tower_is_even : Env → Oc := fun r => lift (((((getS 0 r) >>= fldD (plOf [1] "table")) >>= fun d => (.ok []) >>= fun ds => .ok (d :: ds)) >>= d_break_of_two) >>= fun x => (.ok .non) >>= fun y => isN x y) r fun d => .rt d
def d_Tower_is_even : List D → Res D := runD 1 N_Tower_is_even.length e_Tower_is_even
def mt_is_even_T (c : Nat) : Option (List D → Res D) := if c = 0 then some d_Rounds_is_even else if c = 1 then some d_Tower_is_even else none
def e_look_at_groups : Env → Oc := fun r => (lift (((((getS 0 r) >>= fun d => mthD mt_size_T d >>= fun g => g []) >>= fun x => (.ok (.int 16)) >>= fun y => gtD x y) >>= asB) >>= fun t => if t = true then .ok true else ((((getS 0 r) >>= fun d => mthD mt_is_even_T d >>= fun g => g []) >>= asB) >>= fun t => .ok (!t))) r fun t => if t = true then (.er (.exc 13 []) r) else (.nx r)).seq fun r => (lift ((((((getS 1 r) >>= fun d => ((.ok (.cls 0)) >>= fun d => (.ok []) >>= fun ds => .ok (d :: ds)) >>= fun ds => .ok (d :: ds)) >>= two (isD isC isU)) >>= asB) >>= fun t => .ok (!t)) >>= fun t => if t = true then .ok true else ((((getS 1 r) >>= fun d => mthD mt_size_T d >>= fun g => g []) >>= fun x => (.ok (.int 9)) >>= fun y => gtD x y) >>= asB)) r fun t => if t = true then (.er (.exc 14 []) r) else (.nx r))
def d_look_at_groups : List D → Res D := runD 2 N_look_at_groups.length e_look_at_groups
def Table_init_l1 : D → Env → Oc := fun d r => (into ((nameG 6) d r)).seq fun r => ((lift ((((((getS 5 r) >>= fun d => ((getS 6 r) >>= fun d => (.ok []) >>= fun ds => .ok (d :: ds)) >>= fun ds => .ok (d :: ds)) >>= tupD) >>= fun x => (getS 3 r) >>= fun y => notInD x y) >>= asB) >>= fun t => if t = true then .ok true else ((((getS 1 r) >>= fun d => mthD mt_has_T d >>= fun g => (((getS 3 r) >>= fun x => (((getS 5 r) >>= fun d => ((getS 6 r) >>= fun d => (.ok []) >>= fun ds => .ok (d :: ds)) >>= fun ds => .ok (d :: ds)) >>= tupD) >>= fun y => ixD x y) >>= fun d => (.ok []) >>= fun ds => .ok (d :: ds)) >>= g) >>= asB) >>= fun t => .ok (!t))) r fun t => if t = true then (lift ((getS 5 r) >>= fun d => ((getS 6 r) >>= fun d => (.ok []) >>= fun ds => .ok (d :: ds)) >>= fun ds => .ok (d :: ds)) r fun ds => raiseD 23 ds r) else (.nx r)).seq fun r => (setFI 0 2 2 (fun r => (getS 3 r) >>= fun x => (((getS 5 r) >>= fun d => ((getS 6 r) >>= fun d => (.ok []) >>= fun ds => .ok (d :: ds)) >>= fun ds => .ok (d :: ds)) >>= tupD) >>= fun y => ixD x y) (fun r => ((getS 5 r) >>= fun d => ((getS 6 r) >>= fun d => (.ok []) >>= fun ds => .ok (d :: ds)) >>= fun ds => .ok (d :: ds)) >>= tupD) r))
def Table_init_l2 : D → Env → Oc := fun d r => (into ((nameG 5) d r)).seq fun r => (lift ((getS 4 r) >>= itemsD) r fun ds => forD (Table_init_l1) ds r)
def e_Table_init : Env → Oc := fun r => (lift (((getS 1 r) >>= fun d => ((getS 2 r) >>= fun d => (.ok []) >>= fun ds => .ok (d :: ds)) >>= fun ds => .ok (d :: ds)) >>= d_look_at_groups) r fun _ => .nx r).seq fun r => ((lift (getS 1 r) r fun d => setF 0 2 "lower" .sh d r).seq fun r => ((lift (getS 2 r) r fun d => setF 0 2 "upper" .sh d r).seq fun r => ((lift (.ok (.dic [] [])) r fun d => setF 0 2 "kept" .flat d r).seq fun r => ((lift ((getS 2 r) >>= fun d => mthD mt_members_T d >>= fun g => g []) r fun d => .nx (r.set 4 (.sh d))).seq fun r => (lift ((getS 4 r) >>= itemsD) r fun ds => forD (Table_init_l2) ds r)))))
def d_Table_init : List D → Res D := runI 3 N_Table_init.length 2 e_Table_init
def are_rounds_l1 : D → Env → Oc := fun d r => (into ((nameG 2) d r)).seq fun r => ((lift ((((((getS 2 r) >>= fun d => (.ok []) >>= fun ds => .ok (d :: ds)) >>= d_is_whole) >>= asB) >>= fun t => .ok (!t)) >>= fun t => if t = true then .ok true else ((((getS 2 r) >>= fun x => (.ok (.int 2)) >>= fun y => ltD x y) >>= asB) >>= fun t => if t = true then .ok true else (((getS 2 r) >>= fun x => (.ok (.int 144)) >>= fun y => gtD x y) >>= asB))) r fun t => if t = true then (lift (.ok (.bl false)) r fun d => .rt d) else (.nx r)).seq fun r => (lift ((getS 1 r) >>= fun x => (getS 2 r) >>= fun y => mulD x y) r fun d => .nx (r.set 1 (.sh d))))
def e_are_rounds : Env → Oc := fun r => (lift ((((((getS 0 r) >>= fun d => ((((.ok (.ty "list")) >>= fun d => ((.ok (.ty "tuple")) >>= fun d => (.ok []) >>= fun ds => .ok (d :: ds)) >>= fun ds => .ok (d :: ds)) >>= tupD) >>= fun d => (.ok []) >>= fun ds => .ok (d :: ds)) >>= fun ds => .ok (d :: ds)) >>= two (isD isC isU)) >>= asB) >>= fun t => .ok (!t)) >>= fun t => if t = true then .ok true else (((((getS 0 r) >>= fun d => (.ok []) >>= fun ds => .ok (d :: ds)) >>= one lenD) >>= fun x => (.ok (.int 7)) >>= fun y => gtD x y) >>= asB)) r fun t => if t = true then (lift (.ok (.bl false)) r fun d => .rt d) else (.nx r)).seq fun r => ((lift (.ok (.int 1)) r fun d => .nx (r.set 1 (.sh d))).seq fun r => ((lift ((getS 0 r) >>= itemsD) r fun ds => forD (are_rounds_l1) ds r).seq fun r => (lift ((getS 1 r) >>= fun x => (.ok (.int 144)) >>= fun y => leD x y) r fun d => .rt d)))
def d_are_rounds : List D → Res D := runD 1 N_are_rounds.length e_are_rounds
def e_Rounds_init : Env → Oc := fun r => (lift (((((getS 1 r) >>= fun d => (.ok []) >>= fun ds => .ok (d :: ds)) >>= d_are_rounds) >>= asB) >>= fun t => .ok (!t)) r fun t => if t = true then (.er (.exc 11 []) r) else (.nx r)).seq fun r => (lift (((getS 1 r) >>= fun d => (.ok []) >>= fun ds => .ok (d :: ds)) >>= one tupleD) r fun d => setF 0 0 "rounds" .sh d r)
def d_Rounds_init : List D → Res D := runI 1 N_Rounds_init.length 0 e_Rounds_init
def e_q_whole : Env → Oc := fun r => lift (((((getS 0 r) >>= fun d => ((.ok (.ty "int")) >>= fun d => (.ok []) >>= fun ds => .ok (d :: ds)) >>= fun ds => .ok (d :: ds)) >>= two (isD isC isU)) >>= asB) >>= fun t => if t = true then (((((getS 0 r) >>= fun d => ((.ok (.ty "bool")) >>= fun d => (.ok []) >>= fun ds => .ok (d :: ds)) >>= fun ds => .ok (d :: ds)) >>= two (isD isC isU)) >>= asB) >>= fun t => .ok (.bl (!t))) else .ok (.bl false)) r fun d => .rt d
def d_q_whole : List D → Res D := runD 1 N_q_whole.length e_q_whole
def q_has_c1 (r : Env) (ds : List D) : Res (List D) := lcD (tupG 2 (consG (nameG 4) (consG (nameG 5) (nilG))))
  (fun r => .ok true)
  (fun r => ((((getS 4 r) >>= fun d => (.ok []) >>= fun ds => .ok (d :: ds)) >>= d_q_whole) >>= asB) >>= fun t => if t = true then ((.ok (.int 0)) >>= fun x => (getS 4 r) >>= fun y => (leD x y >>= asB) >>= fun t => if t = true then (getS 5 r) >>= fun z => ltD y z else .ok (.bl false)) else .ok (.bl false))
  (wipeR r [4, 5]) ds
def q_has_l2 : D → Env → Oc := fun d r => (into ((tupG 2 (consG (nameG 2) (consG (nameG 3) (nilG)))) d r)).seq fun r => ((lift ((((((getS 3 r) >>= fun d => ((.ok (.ty "tuple")) >>= fun d => (.ok []) >>= fun ds => .ok (d :: ds)) >>= fun ds => .ok (d :: ds)) >>= two (isD isC isU)) >>= asB) >>= fun t => .ok (!t)) >>= fun t => if t = true then .ok true else (((((getS 3 r) >>= fun d => (.ok []) >>= fun ds => .ok (d :: ds)) >>= one lenD) >>= fun x => (((getS 2 r) >>= fun d => (.ok []) >>= fun ds => .ok (d :: ds)) >>= one lenD) >>= fun y => neD x y) >>= asB)) r fun t => if t = true then (lift (.ok (.bl false)) r fun d => .rt d) else (.nx r)).seq fun r => (lift ((((((((getS 3 r) >>= fun d => ((getS 2 r) >>= fun d => (.ok []) >>= fun ds => .ok (d :: ds)) >>= fun ds => .ok (d :: ds)) >>= zip2D) >>= fun ds => q_has_c1 r ds >>= lstD) >>= fun d => (.ok []) >>= fun ds => .ok (d :: ds)) >>= one allT) >>= asB) >>= fun t => .ok (!t)) r fun t => if t = true then (lift (.ok (.bl false)) r fun d => .rt d) else (.nx r)))
def e_q_has : Env → Oc := fun r => (lift ((((((getS 1 r) >>= fun d => ((.ok (.ty "tuple")) >>= fun d => (.ok []) >>= fun ds => .ok (d :: ds)) >>= fun ds => .ok (d :: ds)) >>= two (isD isC isU)) >>= asB) >>= fun t => .ok (!t)) >>= fun t => if t = true then .ok true else (((((getS 1 r) >>= fun d => (.ok []) >>= fun ds => .ok (d :: ds)) >>= one lenD) >>= fun x => (.ok (.int 2)) >>= fun y => neD x y) >>= asB)) r fun t => if t = true then (lift (.ok (.bl false)) r fun d => .rt d) else (.nx r)).seq fun r => ((lift ((((getS 0 r) >>= fun d => (.ok none) >>= fun lo => ((.ok (.int 2)) >>= fun d => asI d >>= fun i => .ok (some i)) >>= fun hi => sliceD d lo hi) >>= fun d => ((getS 1 r) >>= fun d => (.ok []) >>= fun ds => .ok (d :: ds)) >>= fun ds => .ok (d :: ds)) >>= zip2D) r fun ds => forD (q_has_l2) ds r).seq fun r => (lift (.ok (.bl true)) r fun d => .rt d))
def d_q_has : List D → Res D := runD 2 N_q_has.length e_q_has
def q_two_l1 : D → Env → Oc := fun d r => (into ((nameG 4) d r)).seq fun r => (lift ((((getS 1 r) >>= fun x => (((getS 3 r) >>= fun d => ((getS 4 r) >>= fun d => (.ok []) >>= fun ds => .ok (d :: ds)) >>= fun ds => .ok (d :: ds)) >>= tupD) >>= fun y => ixD x y) >>= fun x => ((getS 1 r) >>= fun x => (((getS 4 r) >>= fun d => ((getS 3 r) >>= fun d => (.ok []) >>= fun ds => .ok (d :: ds)) >>= fun ds => .ok (d :: ds)) >>= tupD) >>= fun y => ixD x y) >>= fun y => neD x y) >>= asB) r fun t => if t = true then (lift (((getS 3 r) >>= fun d => ((getS 4 r) >>= fun d => (.ok []) >>= fun ds => .ok (d :: ds)) >>= fun ds => .ok (d :: ds)) >>= tupD) r fun d => .rt d) else (.nx r))
def q_two_l2 : D → Env → Oc := fun d r => (into ((nameG 3) d r)).seq fun r => (lift ((getS 2 r) >>= itemsD) r fun ds => forD (q_two_l1) ds r)
def e_q_two : Env → Oc := fun r => (lift (((getS 0 r) >>= fun d => (.ok []) >>= fun ds => .ok (d :: ds)) >>= d_q_members) r fun d => .nx (r.set 2 (.sh d))).seq fun r => ((lift ((getS 2 r) >>= itemsD) r fun ds => forD (q_two_l2) ds r).seq fun r => (lift (.ok .non) r fun d => .rt d))
def d_q_two : List D → Res D := runD 2 N_q_two.length e_q_two
def e_q_asked : Env → Oc := fun r => (lift (.ok .non) r fun d => .nx (r.set 3 (.sh d))).seq fun r => ((tryD ctC ctU (fun r => lift (((getS 0 r) >>= fun d => ((((getS 1 r) >>= fun d => (.ok []) >>= fun ds => .ok (d :: ds)) >>= d_Rounds_init) >>= fun d => ((getS 2 r) >>= fun d => (.ok []) >>= fun ds => .ok (d :: ds)) >>= fun ds => .ok (d :: ds)) >>= fun ds => .ok (d :: ds)) >>= d_Table_init) r fun d => .nx (r.set 3 (.sh d))) [⟨13, none, fun r => lift (.ok (.str "lower")) r fun d => .nx (r.set 3 (.sh d))⟩, ⟨23, some 4, fun r => lift ((((getS 4 r) >>= fldE (plOf [23] "x")) >>= fun d => (((getS 4 r) >>= fldE (plOf [23] "y")) >>= fun d => (.ok []) >>= fun ds => .ok (d :: ds)) >>= fun ds => .ok (d :: ds)) >>= tupD) r fun d => .nx (r.set 3 (.sh d))⟩] r).seq fun r => (lift (getS 3 r) r fun d => .rt d))
def d_q_asked : List D → Res D := runD 3 N_q_asked.length e_q_asked
def e_Table_carries : Env → Oc := fun r => lift ((((getS 0 r) >>= fldD (plOf [2] "kept")) >>= fun d => (.ok []) >>= fun ds => .ok (d :: ds)) >>= one dictD) r fun d => .rt d
def d_Table_carries : List D → Res D := runD 1 N_Table_carries.length e_Table_carries
def mt_carries (c : Nat) : Option (List D → Res D) := if c = 2 then some d_Table_carries else none
def e_q_put : Env → Oc := fun r => (lift (getS 0 r) r fun d => into ((tupG 3 (consG (nameG 3) (consG (nameG 4) (consG (nameG 5) (nilG))))) d r)).seq fun r => ((lift (((getS 3 r) >>= fun d => ((((getS 3 r) >>= fun d => (((getS 1 r) >>= fun x => (.ok (.int 0)) >>= fun y => ixD x y) >>= fun d => (((getS 2 r) >>= fun x => (.ok (.int 0)) >>= fun y => ixD x y) >>= fun d => (.ok []) >>= fun ds => .ok (d :: ds)) >>= fun ds => .ok (d :: ds)) >>= fun ds => .ok (d :: ds)) >>= d_q_added) >>= fun d => (((getS 5 r) >>= fun x => ((((getS 1 r) >>= fun x => (.ok (.int 1)) >>= fun y => ixD x y) >>= fun d => (((getS 2 r) >>= fun x => (.ok (.int 1)) >>= fun y => ixD x y) >>= fun d => (.ok []) >>= fun ds => .ok (d :: ds)) >>= fun ds => .ok (d :: ds)) >>= tupD) >>= fun y => ixD x y) >>= fun d => (.ok []) >>= fun ds => .ok (d :: ds)) >>= fun ds => .ok (d :: ds)) >>= fun ds => .ok (d :: ds)) >>= d_q_added) r fun d => .nx (r.set 6 (.sh d))).seq fun r => (lift (((getS 6 r) >>= fun d => ((((getS 4 r) >>= fun d => (((getS 1 r) >>= fun x => (.ok (.int 1)) >>= fun y => ixD x y) >>= fun d => (((getS 2 r) >>= fun x => (.ok (.int 1)) >>= fun y => ixD x y) >>= fun d => (.ok []) >>= fun ds => .ok (d :: ds)) >>= fun ds => .ok (d :: ds)) >>= fun ds => .ok (d :: ds)) >>= d_q_added) >>= fun d => (.ok []) >>= fun ds => .ok (d :: ds)) >>= fun ds => .ok (d :: ds)) >>= tupD) r fun d => .rt d))
def d_q_put : List D → Res D := runD 3 N_q_put.length e_q_put
def q_broken_l1 : D → Env → Oc := fun d r => (into ((nameG 6) d r)).seq fun r => ((lift (((getS 0 r) >>= fun d => (((getS 2 r) >>= fun x => (((getS 4 r) >>= fun d => ((getS 5 r) >>= fun d => (.ok []) >>= fun ds => .ok (d :: ds)) >>= fun ds => .ok (d :: ds)) >>= tupD) >>= fun y => ixD x y) >>= fun d => (((getS 2 r) >>= fun x => (((((getS 1 r) >>= fun d => ((getS 4 r) >>= fun d => ((getS 5 r) >>= fun d => (.ok []) >>= fun ds => .ok (d :: ds)) >>= fun ds => .ok (d :: ds)) >>= fun ds => .ok (d :: ds)) >>= d_q_added) >>= fun d => ((getS 6 r) >>= fun d => (.ok []) >>= fun ds => .ok (d :: ds)) >>= fun ds => .ok (d :: ds)) >>= tupD) >>= fun y => ixD x y) >>= fun d => (.ok []) >>= fun ds => .ok (d :: ds)) >>= fun ds => .ok (d :: ds)) >>= fun ds => .ok (d :: ds)) >>= d_q_put) r fun d => .nx (r.set 7 (.sh d))).seq fun r => (lift (((getS 7 r) >>= fun x => (((getS 0 r) >>= fun d => (((getS 2 r) >>= fun x => (((getS 5 r) >>= fun d => ((getS 6 r) >>= fun d => (.ok []) >>= fun ds => .ok (d :: ds)) >>= fun ds => .ok (d :: ds)) >>= tupD) >>= fun y => ixD x y) >>= fun d => (((getS 2 r) >>= fun x => (((getS 4 r) >>= fun d => ((((getS 1 r) >>= fun d => ((getS 5 r) >>= fun d => ((getS 6 r) >>= fun d => (.ok []) >>= fun ds => .ok (d :: ds)) >>= fun ds => .ok (d :: ds)) >>= fun ds => .ok (d :: ds)) >>= d_q_added) >>= fun d => (.ok []) >>= fun ds => .ok (d :: ds)) >>= fun ds => .ok (d :: ds)) >>= tupD) >>= fun y => ixD x y) >>= fun d => (.ok []) >>= fun ds => .ok (d :: ds)) >>= fun ds => .ok (d :: ds)) >>= fun ds => .ok (d :: ds)) >>= d_q_put) >>= fun y => neD x y) >>= asB) r fun t => if t = true then (lift (((getS 4 r) >>= fun d => ((getS 5 r) >>= fun d => ((getS 6 r) >>= fun d => (.ok []) >>= fun ds => .ok (d :: ds)) >>= fun ds => .ok (d :: ds)) >>= fun ds => .ok (d :: ds)) >>= tupD) r fun d => .rt d) else (.nx r)))
def q_broken_l2 : D → Env → Oc := fun d r => (into ((nameG 5) d r)).seq fun r => (lift ((getS 3 r) >>= itemsD) r fun ds => forD (q_broken_l1) ds r)
def q_broken_l3 : D → Env → Oc := fun d r => (into ((nameG 4) d r)).seq fun r => (lift ((getS 3 r) >>= itemsD) r fun ds => forD (q_broken_l2) ds r)
def e_q_broken : Env → Oc := fun r => (lift (((getS 1 r) >>= fun d => (.ok []) >>= fun ds => .ok (d :: ds)) >>= d_q_members) r fun d => .nx (r.set 3 (.sh d))).seq fun r => ((lift ((getS 3 r) >>= itemsD) r fun ds => forD (q_broken_l3) ds r).seq fun r => (lift (.ok .non) r fun d => .rt d))
def d_q_broken : List D → Res D := runD 3 N_q_broken.length e_q_broken
def Tower_members_2_c1 (r : Env) (ds : List D) : Res (List D) := lcD (nameG 3)
  (fun r => .ok true)
  (fun r => ((getS 2 r) >>= fun d => ((getS 3 r) >>= fun d => (.ok []) >>= fun ds => .ok (d :: ds)) >>= fun ds => .ok (d :: ds)) >>= tupD)
  (wipeR r [3]) ds
def Tower_members_2_l2 : D → Env → Oc := fun d r => (into ((nameG 2) d r)).seq fun r => (extG 1 (fun r => (((((getS 0 r) >>= fldD (plOf [1] "table")) >>= fldD (plOf [2] "upper")) >>= fun d => mthD mt_members_T d >>= fun g => g []) >>= itemsD) >>= fun ds => Tower_members_2_c1 r ds >>= lstD) r)
def e_Tower_members_2 : Env → Oc := fun r => (lift ((.ok []) >>= lstD) r fun d => .nx (r.set 1 (.ow .flat d))).seq fun r => ((lift (((((getS 0 r) >>= fldD (plOf [1] "table")) >>= fldD (plOf [2] "lower")) >>= fun d => mthD mt_members_T d >>= fun g => g []) >>= itemsD) r fun ds => forD (Tower_members_2_l2) ds r).seq fun r => (frzAt 1 (fun r => lift (getS 1 r) r fun d => .rt d) r))
def d_Tower_members_2 : List D → Res D := runD 1 N_Tower_members.length e_Tower_members_2
def mt_members_T_T (c : Nat) : Option (List D → Res D) := if c = 0 then some d_Rounds_members else if c = 1 then some d_Tower_members_2 else none
def e_Group_size_1_2 : Env → Oc := fun r => lift ((((getS 0 r) >>= fun d => mthD mt_members_T_T d >>= fun g => g []) >>= fun d => (.ok []) >>= fun ds => .ok (d :: ds)) >>= one lenD) r fun d => .rt d
def d_Group_size_1_2 : List D → Res D := runD 1 N_Group_size.length e_Group_size_1_2
def mt_size_T_T (c : Nat) : Option (List D → Res D) := if c = 0 then some d_Group_size else if c = 1 then some d_Group_size_1_2 else none
def e_q_tower_right : Env → Oc := fun r => (lift (.ok .non) r fun d => .nx (r.set 3 (.sh d))).seq fun r => ((lift (.ok .non) r fun d => .nx (r.set 4 (.sh d))).seq fun r => ((tryD ctC ctU (fun r => lift (((getS 0 r) >>= fun d => (.ok []) >>= fun ds => .ok (d :: ds)) >>= d_Tower_init) r fun d => .nx (r.set 4 (.sh d))) [⟨24, some 5, fun r => lift ((getS 5 r) >>= fldE (plOf [24] "three")) r fun d => .nx (r.set 3 (.sh d))⟩] r).seq fun r => ((lift (((getS 1 r) >>= fun x => (.ok .non) >>= fun y => notN x y) >>= asB) r fun t => if t = true then (lift ((((getS 3 r) >>= fun x => (getS 1 r) >>= fun y => eqD x y) >>= asB) >>= fun t => if t = true then ((getS 4 r) >>= fun x => (.ok .non) >>= fun y => isN x y) else .ok (.bl false)) r fun d => .rt d) else (.nx r)).seq fun r => (lift ((((getS 3 r) >>= fun x => (.ok .non) >>= fun y => isN x y) >>= asB) >>= fun t => if t = true then (((((getS 4 r) >>= fun d => mthD mt_size_T_T d >>= fun g => g []) >>= fun x => (getS 2 r) >>= fun y => eqD x y) >>= asB) >>= fun t => if t = true then (((((getS 4 r) >>= fun d => mthD mt_members_T_T d >>= fun g => g []) >>= fun d => (.ok []) >>= fun ds => .ok (d :: ds)) >>= one lenD) >>= fun x => (getS 2 r) >>= fun y => eqD x y) else .ok (.bl false)) else .ok (.bl false)) r fun d => .rt d))))
def d_q_tower_right : List D → Res D := runD 3 N_q_tower_right.length e_q_tower_right
def law_s1 : Env → Oc := fun r => lift (((getS 0 r) >>= fun d => (.ok []) >>= fun ds => .ok (d :: ds)) >>= d_q_ground) r fun d => .nx (r.set 1 (.sh d))
def law_s2 : Env → Oc := fun r => lift ((((((((getS 1 r) >>= fun x => (.ok (.int 0)) >>= fun y => ixD x y) >>= fun d => (.ok []) >>= fun ds => .ok (d :: ds)) >>= d_Rounds_init) >>= fun d => (((((getS 1 r) >>= fun x => (.ok (.int 1)) >>= fun y => ixD x y) >>= fun d => (.ok []) >>= fun ds => .ok (d :: ds)) >>= d_Rounds_init) >>= fun d => (((getS 1 r) >>= fun x => (.ok (.int 2)) >>= fun y => ixD x y) >>= fun d => (.ok []) >>= fun ds => .ok (d :: ds)) >>= fun ds => .ok (d :: ds)) >>= fun ds => .ok (d :: ds)) >>= d_Table_init) >>= fun d => (.ok []) >>= fun ds => .ok (d :: ds)) >>= d_Tower_init) r fun d => .nx (r.set 2 (.sh d))
def law_s3 : Env → Oc := fun r => lift (((((getS 0 r) >>= fun d => ((.ok (.int 5)) >>= fun d => (.ok []) >>= fun ds => .ok (d :: ds)) >>= fun ds => .ok (d :: ds)) >>= d_q_cell) >>= fun d => ((.ok (.int 4)) >>= fun d => ((.ok (.int 4)) >>= fun d => (.ok []) >>= fun ds => .ok (d :: ds)) >>= fun ds => .ok (d :: ds)) >>= fun ds => .ok (d :: ds)) >>= d_q_rounds) r fun d => .nx (r.set 3 (.sh d))
def law_s4 : Env → Oc := fun r => lift (((getS 3 r) >>= fun d => (.ok []) >>= fun ds => .ok (d :: ds)) >>= d_q_members) r fun d => .nx (r.set 4 (.sh d))
def law_s5 : Env → Oc := fun r => lift ((.ok []) >>= lstD) r fun d => .nx (r.set 5 (.ow .flat d))
def law_s6_1_1 : Env → Oc := fun r => appG 5 (fun r => ((getS 6 r) >>= fun d => ((getS 7 r) >>= fun d => (.ok []) >>= fun ds => .ok (d :: ds)) >>= fun ds => .ok (d :: ds)) >>= tupD) r
def law_l1 : D → Env → Oc := fun d r => (into ((nameG 7) d r)).seq fun r => (law_s6_1_1 r)
def law_s6_1 : Env → Oc := fun r => lift (((((getS 1 r) >>= fun x => (.ok (.int 1)) >>= fun y => ixD x y) >>= fun d => (.ok []) >>= fun ds => .ok (d :: ds)) >>= d_q_members) >>= itemsD) r fun ds => forD (law_l1) ds r
def law_l2 : D → Env → Oc := fun d r => (into ((nameG 6) d r)).seq fun r => (law_s6_1 r)
def law_s6 : Env → Oc := fun r => lift (((((getS 1 r) >>= fun x => (.ok (.int 0)) >>= fun y => ixD x y) >>= fun d => (.ok []) >>= fun ds => .ok (d :: ds)) >>= d_q_members) >>= itemsD) r fun ds => forD (law_l2) ds r
def law_s7 : Env → Oc := fun r => lift (.ok (.dic [] [])) r fun d => .nx (r.set 8 (.ow .flat d))
def law_s8_1 : Env → Oc := fun r => lift (((getS 0 r) >>= fun d => (((.ok (.int 6)) >>= fun x => ((getS 9 r) >>= fun x => ((((getS 0 r) >>= fun d => ((.ok (.int 10)) >>= fun d => (.ok []) >>= fun ds => .ok (d :: ds)) >>= fun ds => .ok (d :: ds)) >>= d_q_cell) >>= fun x => (.ok (.int 3)) >>= fun y => modD x y) >>= fun y => mulD x y) >>= fun y => addD x y) >>= fun d => (.ok []) >>= fun ds => .ok (d :: ds)) >>= fun ds => .ok (d :: ds)) >>= d_q_cell) r fun d => .nx (r.set 10 (.sh d))
def law_s8_2_1 : Env → Oc := fun r => setG 8 (fun r => (getR 5 r) >>= fun x => ((getS 10 r) >>= fun x => (((getR 5 r) >>= fun d => (.ok []) >>= fun ds => .ok (d :: ds)) >>= one lenD) >>= fun y => modD x y) >>= fun y => ixD x y) (fun r => ((getS 7 r) >>= fun d => ((getS 11 r) >>= fun d => (.ok []) >>= fun ds => .ok (d :: ds)) >>= fun ds => .ok (d :: ds)) >>= tupD) r
def law_s8_2_2 : Env → Oc := fun r => lift ((getS 10 r) >>= fun x => ((((.ok (.int 1)) >>= fun d => ((((getR 5 r) >>= fun d => (.ok []) >>= fun ds => .ok (d :: ds)) >>= one lenD) >>= fun d => (.ok []) >>= fun ds => .ok (d :: ds)) >>= fun ds => .ok (d :: ds)) >>= lstD) >>= fun x => (((((((getS 0 r) >>= fun d => ((.ok (.int 10)) >>= fun d => (.ok []) >>= fun ds => .ok (d :: ds)) >>= fun ds => .ok (d :: ds)) >>= d_q_cell) >>= fun x => (.ok (.int 3)) >>= fun y => modD x y) >>= fun x => (.ok (.int 0)) >>= fun y => gtD x y) >>= fun d => (.ok []) >>= fun ds => .ok (d :: ds)) >>= one intD) >>= fun y => ixD x y) >>= fun y => divD x y) r fun d => .nx (r.set 10 (.sh d))
def law_l3 : D → Env → Oc := fun d r => (into ((nameG 11) d r)).seq fun r => ((law_s8_2_1 r).seq fun r => (law_s8_2_2 r))
def law_s8_2 : Env → Oc := fun r => lift ((getS 4 r) >>= itemsD) r fun ds => forD (law_l3) ds r
def law_l4 : D → Env → Oc := fun d r => (into ((tupG 2 (consG (nameG 9) (consG (nameG 7) (nilG)))) d r)).seq fun r => ((law_s8_1 r).seq fun r => (law_s8_2 r))
def law_s8 : Env → Oc := fun r => lift (((getS 4 r) >>= fun d => (.ok []) >>= fun ds => .ok (d :: ds)) >>= enumS) r fun ds => forD (law_l4) ds r
def law_s9_1 : Env → Oc := fun r => lift (((getS 0 r) >>= fun d => (((.ok (.int 12)) >>= fun x => (getS 9 r) >>= fun y => addD x y) >>= fun d => (.ok []) >>= fun ds => .ok (d :: ds)) >>= fun ds => .ok (d :: ds)) >>= d_q_cell) r fun d => .nx (r.set 10 (.sh d))
def law_s9_2 : Env → Oc := fun r => lift ((getR 5 r) >>= fun x => (((getS 10 r) >>= fun x => (.ok (.int 64)) >>= fun y => divD x y) >>= fun x => (((getR 5 r) >>= fun d => (.ok []) >>= fun ds => .ok (d :: ds)) >>= one lenD) >>= fun y => modD x y) >>= fun y => ixD x y) r fun d => .nx (r.set 12 (.sh d))
def law_s9_3 : Env → Oc := fun r => lift (((((((getS 12 r) >>= fun x => (.ok (.int 0)) >>= fun y => ixD x y) >>= fun x => (((.ok (.int 0)) >>= fun d => (.ok []) >>= fun ds => .ok (d :: ds)) >>= tupD) >>= fun y => addD x y) >>= fun d => (((getS 12 r) >>= fun x => (.ok (.int 1)) >>= fun y => ixD x y) >>= fun d => (.ok []) >>= fun ds => .ok (d :: ds)) >>= fun ds => .ok (d :: ds)) >>= tupD) >>= fun d => (((((getS 12 r) >>= fun x => (.ok (.int 0)) >>= fun y => ixD x y) >>= fun d => (((((.ok (.int 9)) >>= fun d => (.ok []) >>= fun ds => .ok (d :: ds)) >>= tupD) >>= fun x => ((getS 12 r) >>= fun x => (.ok (.int 1)) >>= fun y => ixD x y) >>= fun y => addD x y) >>= fun d => (.ok []) >>= fun ds => .ok (d :: ds)) >>= fun ds => .ok (d :: ds)) >>= tupD) >>= fun d => (((getS 12 r) >>= fun x => (((.ok (.int 0)) >>= fun d => (.ok []) >>= fun ds => .ok (d :: ds)) >>= tupD) >>= fun y => addD x y) >>= fun d => ((((getS 12 r) >>= fun d => (.ok []) >>= fun ds => .ok (d :: ds)) >>= one listD) >>= fun d => (((((((.ok (.bl true)) >>= fun d => (.ok []) >>= fun ds => .ok (d :: ds)) >>= tupD) >>= fun x => ((((getS 12 r) >>= fun x => (.ok (.int 0)) >>= fun y => ixD x y) >>= fun d => (.ok []) >>= fun ds => .ok (d :: ds)) >>= one lenD) >>= fun y => mulD x y) >>= fun d => (((getS 12 r) >>= fun x => (.ok (.int 1)) >>= fun y => ixD x y) >>= fun d => (.ok []) >>= fun ds => .ok (d :: ds)) >>= fun ds => .ok (d :: ds)) >>= tupD) >>= fun d => ((.ok .non) >>= fun d => ((getS 12 r) >>= fun d => (.ok []) >>= fun ds => .ok (d :: ds)) >>= fun ds => .ok (d :: ds)) >>= fun ds => .ok (d :: ds)) >>= fun ds => .ok (d :: ds)) >>= fun ds => .ok (d :: ds)) >>= fun ds => .ok (d :: ds)) >>= fun ds => .ok (d :: ds)) >>= lstD) r fun d => .nx (r.set 13 (.sh d))
def law_s9_4 : Env → Oc := fun r => lift ((getS 13 r) >>= fun x => ((getS 10 r) >>= fun x => (.ok (.int 7)) >>= fun y => modD x y) >>= fun y => ixD x y) r fun d => .nx (r.set 13 (.sh d))
def law_s9_5 : Env → Oc := fun r => setG 8 (fun r => getS 13 r) (fun r => (((getS 4 r) >>= fun x => (((getS 10 r) >>= fun x => (.ok (.int 7)) >>= fun y => divD x y) >>= fun x => (((getS 4 r) >>= fun d => (.ok []) >>= fun ds => .ok (d :: ds)) >>= one lenD) >>= fun y => modD x y) >>= fun y => ixD x y) >>= fun d => (((getS 4 r) >>= fun x => (((getS 10 r) >>= fun x => (.ok (.int 28)) >>= fun y => divD x y) >>= fun x => (((getS 4 r) >>= fun d => (.ok []) >>= fun ds => .ok (d :: ds)) >>= one lenD) >>= fun y => modD x y) >>= fun y => ixD x y) >>= fun d => (.ok []) >>= fun ds => .ok (d :: ds)) >>= fun ds => .ok (d :: ds)) >>= tupD) r
def law_l5 : D → Env → Oc := fun d r => (into ((nameG 9) d r)).seq fun r => ((law_s9_1 r).seq fun r => ((law_s9_2 r).seq fun r => ((law_s9_3 r).seq fun r => ((law_s9_4 r).seq fun r => (law_s9_5 r)))))
def law_s9 : Env → Oc := fun r => lift (((((((getS 0 r) >>= fun d => ((.ok (.int 11)) >>= fun d => (.ok []) >>= fun ds => .ok (d :: ds)) >>= fun ds => .ok (d :: ds)) >>= d_q_cell) >>= fun x => (.ok (.int 5)) >>= fun y => modD x y) >>= fun x => (.ok (.int 2)) >>= fun y => divD x y) >>= fun d => (.ok []) >>= fun ds => .ok (d :: ds)) >>= rng1) r fun ds => forD (law_l5) ds r
def law_s10 : Env → Oc := fun r => lift (.ok .non) r fun d => .nx (r.set 14 (.sh d))
def law_s11_1_1_1 : Env → Oc := fun r => lift (((getS 7 r) >>= fun d => ((getS 11 r) >>= fun d => (.ok []) >>= fun ds => .ok (d :: ds)) >>= fun ds => .ok (d :: ds)) >>= tupD) r fun d => .nx (r.set 14 (.sh d))
def law_s11_1_1 : Env → Oc := fun r => lift ((((getS 14 r) >>= fun x => (.ok .non) >>= fun y => isN x y) >>= asB) >>= fun t => if t = true then (((((getS 1 r) >>= fun d => (((getR 8 r) >>= fun x => (((getS 7 r) >>= fun d => ((getS 11 r) >>= fun d => (.ok []) >>= fun ds => .ok (d :: ds)) >>= fun ds => .ok (d :: ds)) >>= tupD) >>= fun y => ixD x y) >>= fun d => (.ok []) >>= fun ds => .ok (d :: ds)) >>= fun ds => .ok (d :: ds)) >>= d_q_has) >>= asB) >>= fun t => .ok (!t)) else .ok false) r fun t => if t = true then (law_s11_1_1_1 r) else (.nx r)
def law_l6 : D → Env → Oc := fun d r => (into ((nameG 11) d r)).seq fun r => (law_s11_1_1 r)
def law_s11_1 : Env → Oc := fun r => lift ((getS 4 r) >>= itemsD) r fun ds => forD (law_l6) ds r
def law_l7 : D → Env → Oc := fun d r => (into ((nameG 7) d r)).seq fun r => (law_s11_1 r)
def law_s11 : Env → Oc := fun r => lift ((getS 4 r) >>= itemsD) r fun ds => forD (law_l7) ds r
def law_s12_1 : Env → Oc := fun r => lift (.ok (.str "lower")) r fun d => .nx (r.set 14 (.sh d))
def law_s12 : Env → Oc := fun r => lift ((((((getS 1 r) >>= fun x => (.ok (.int 1)) >>= fun y => ixD x y) >>= fun d => (((getS 1 r) >>= fun x => (.ok (.int 2)) >>= fun y => ixD x y) >>= fun d => (.ok []) >>= fun ds => .ok (d :: ds)) >>= fun ds => .ok (d :: ds)) >>= d_q_two) >>= fun x => (.ok .non) >>= fun y => notN x y) >>= asB) r fun t => if t = true then (law_s12_1 r) else (.nx r)
def law_s13 : Env → Oc := fun r => frzAt 8 (fun r => lift (((getS 2 r) >>= fun d => ((getS 3 r) >>= fun d => ((getS 8 r) >>= fun d => (.ok []) >>= fun ds => .ok (d :: ds)) >>= fun ds => .ok (d :: ds)) >>= fun ds => .ok (d :: ds)) >>= d_q_asked) r fun d => .nx (r.set 15 (.sh d))) r
def law_s14 : Env → Oc := fun r => lift (((getS 14 r) >>= fun x => (.ok .non) >>= fun y => notN x y) >>= asB) r fun t => if t = true then (lift ((getS 15 r) >>= fun x => (getS 14 r) >>= fun y => eqD x y) r fun d => .rt d) else (.nx r)
def law_s15 : Env → Oc := fun r => frzAt 8 (fun r => lift (((((getS 15 r) >>= fun d => mthD mt_carries d >>= fun g => g []) >>= fun x => (getR 8 r) >>= fun y => neD x y) >>= asB) >>= fun t => if t = true then .ok true else (((((getS 15 r) >>= fun d => (.ok []) >>= fun ds => .ok (d :: ds)) >>= d_break_of_two) >>= fun x => (((getS 3 r) >>= fun d => ((getS 8 r) >>= fun d => (.ok []) >>= fun ds => .ok (d :: ds)) >>= fun ds => .ok (d :: ds)) >>= d_q_two) >>= fun y => neD x y) >>= asB)) r fun t => if t = true then (lift (.ok (.bl false)) r fun d => .rt d) else (.nx r)) r
def law_s16 : Env → Oc := fun r => frzAt 8 (fun r => lift (((getS 1 r) >>= fun d => ((getS 3 r) >>= fun d => ((getS 8 r) >>= fun d => (.ok []) >>= fun ds => .ok (d :: ds)) >>= fun ds => .ok (d :: ds)) >>= fun ds => .ok (d :: ds)) >>= d_q_broken) r fun d => .nx (r.set 16 (.sh d))) r
def law_s17 : Env → Oc := fun r => lift ((((((getS 15 r) >>= fun d => (.ok []) >>= fun ds => .ok (d :: ds)) >>= d_break_of_three) >>= fun x => (getS 16 r) >>= fun y => eqD x y) >>= asB) >>= fun t => if t = true then (((getS 15 r) >>= fun d => ((getS 16 r) >>= fun d => (((((getR 5 r) >>= fun d => (.ok []) >>= fun ds => .ok (d :: ds)) >>= one lenD) >>= fun x => (((getS 4 r) >>= fun d => (.ok []) >>= fun ds => .ok (d :: ds)) >>= one lenD) >>= fun y => mulD x y) >>= fun d => (.ok []) >>= fun ds => .ok (d :: ds)) >>= fun ds => .ok (d :: ds)) >>= fun ds => .ok (d :: ds)) >>= d_q_tower_right) else .ok (.bl false)) r fun d => .rt d
def e_law : Env → Oc := fun r => (law_s1 r).seq fun r => ((law_s2 r).seq fun r => ((law_s3 r).seq fun r => ((law_s4 r).seq fun r => ((law_s5 r).seq fun r => ((law_s6 r).seq fun r => ((law_s7 r).seq fun r => ((law_s8 r).seq fun r => ((law_s9 r).seq fun r => ((law_s10 r).seq fun r => ((law_s11 r).seq fun r => ((law_s12 r).seq fun r => ((law_s13 r).seq fun r => ((law_s14 r).seq fun r => ((law_s15 r).seq fun r => ((law_s16 r).seq fun r => (law_s17 r))))))))))))))))
def d_law : List D → Res D := runD 1 N_law.length e_law
structure Txt (P : Program) (w : World) (K : PySem.W.Frag) (mg : Str → Option Value) (base : Heap) : Prop where
  zz : True
  n_range : mg "range" = none
  n_min : mg "min" = none
  n_tuple : mg "tuple" = none
  n_len : mg "len" = none
  n_sum : mg "sum" = none
  n_enumerate : mg "enumerate" = none
  c_Tower : mg (cname 1) = some (.ref ((⟨P, w, K, mg⟩ : GC).ca 1))
  f_lower : FldM K (⟨P, w, K, mg⟩ : GC).ca "lower" (plOf [2] "lower")
  f_upper : FldM K (⟨P, w, K, mg⟩ : GC).ca "upper" (plOf [2] "upper")
  f_rounds : FldM K (⟨P, w, K, mg⟩ : GC).ca "rounds" (plOf [0] "rounds")
  f_table : FldM K (⟨P, w, K, mg⟩ : GC).ca "table" (plOf [1] "table")
  n_isinstance : mg "isinstance" = none
  n_zip : mg "zip" = none
  n_int : mg "int" = none
  n_bool : mg "bool" = none
  c_NoElement : mg (cname 12) = some (.ref ((⟨P, w, K, mg⟩ : GC).ca 12))
  e_NoElement : ExM0 K mg ((⟨P, w, K, mg⟩ : GC).ca 12) 12
  f_kept : FldM K (⟨P, w, K, mg⟩ : GC).ca "kept" (plOf [2] "kept")
  c_NoTower : mg (cname 24) = some (.ref ((⟨P, w, K, mg⟩ : GC).ca 24))
  e_NoTower : ExMA P w K mg base ((⟨P, w, K, mg⟩ : GC).ca 24) 24
  cl_Tower_table : ClM K (⟨P, w, K, mg⟩ : GC).ca "table" 1
  f_ground : FldM K (⟨P, w, K, mg⟩ : GC).ca "ground" (plOf [1] "ground")
  cl_Tower_ground : ClM K (⟨P, w, K, mg⟩ : GC).ca "ground" 1
  c_Table : mg (cname 2) = some (.ref ((⟨P, w, K, mg⟩ : GC).ca 2))
  g_MOST_LOWER : ∃ t, mg "MOST_LOWER" = some (.int 16 t)
  c_NoLower : mg (cname 13) = some (.ref ((⟨P, w, K, mg⟩ : GC).ca 13))
  e_NoLower : ExM0 K mg ((⟨P, w, K, mg⟩ : GC).ca 13) 13
  c_Rounds : mg (cname 0) = some (.ref ((⟨P, w, K, mg⟩ : GC).ca 0))
  g_MOST_UPPER : ∃ t, mg "MOST_UPPER" = some (.int 9 t)
  c_NoUpper : mg (cname 14) = some (.ref ((⟨P, w, K, mg⟩ : GC).ca 14))
  e_NoUpper : ExM0 K mg ((⟨P, w, K, mg⟩ : GC).ca 14) 14
  cl_Table_lower : ClM K (⟨P, w, K, mg⟩ : GC).ca "lower" 2
  cl_Table_upper : ClM K (⟨P, w, K, mg⟩ : GC).ca "upper" 2
  cl_Table_kept : ClM K (⟨P, w, K, mg⟩ : GC).ca "kept" 2
  c_NoCarry : mg (cname 23) = some (.ref ((⟨P, w, K, mg⟩ : GC).ca 23))
  e_NoCarry : ExMA P w K mg base ((⟨P, w, K, mg⟩ : GC).ca 23) 23
  n_list : mg "list" = none
  g_MOST_ROUNDS : ∃ t, mg "MOST_ROUNDS" = some (.int 7 t)
  g_MOST_ELEMENTS : ∃ t, mg "MOST_ELEMENTS" = some (.int 144 t)
  c_NoRounds : mg (cname 11) = some (.ref ((⟨P, w, K, mg⟩ : GC).ca 11))
  e_NoRounds : ExM0 K mg ((⟨P, w, K, mg⟩ : GC).ca 11) 11
  cl_Rounds_rounds : ClM K (⟨P, w, K, mg⟩ : GC).ca "rounds" 0
  n_all : mg "all" = none
  x_x : FldX K (⟨P, w, K, mg⟩ : GC).ca "x" (plOf [23] "x")
  x_y : FldX K (⟨P, w, K, mg⟩ : GC).ca "y" (plOf [23] "y")
  n_dict : mg "dict" = none
  x_three : FldX K (⟨P, w, K, mg⟩ : GC).ca "three" (plOf [24] "three")
  isM : IsM K (⟨P, w, K, mg⟩ : GC).ca isC isU
  ctM : CtM K (⟨P, w, K, mg⟩ : GC).ca ctC ctU
section
variable {P : Program} {w : World} {K : PySem.W.Frag} {mg : Str → Option Value} {base : Heap}
theorem b_q_rounds (T : Txt P w K mg base) {f : Addr} (cdv : Value) (A : Around) (outer : List PySem.Env) (s : Shared) (H : Hp) (E : XK) (hr : Room 0 (A.deeper (envOfC "_law_rounds" (defScope s_q_rounds) s.heap.objs.size f cdv))) :
    RSs (cxOf (L2.CX P w) P w K mg base N_q_rounds "_law_rounds" (defScope s_q_rounds) f cdv A outer s H E) (WD E) .S (defBody s_q_rounds) e_q_rounds :=
  rss_cons (rs_setO 3 sc_q_rounds.nd (re_lst (ra_nil)))
    (rss_cons (rs_set 4 sc_q_rounds.nd (re_var 1))
    (rss_cons (rs_for (passes_of rfl) rfl (by exact (ri_range1 (b := true) T.n_range (rar_cons (re_rd (re_int)) (rar_nil)))) (by exact (gN 5 sc_q_rounds.nd))
    (by exact (rss_cons (rs_if (rt_pw (rw_and (rt_cp (c_gt) (re_rd (re_var 4)) (re_rd (re_int))) (rw_and1 (rt_cp (c_gt) (re_rd (re_mod (re_rd (re_var 0)) (re_rd (re_int)))) (re_rd (re_int))))))
    (rss_cons (rs_append 3 (re_add (re_rd (re_int)) (re_rd (re_mod (re_rd (re_div (re_rd (re_var 0)) (re_rd (re_int)))) (re_rd (re_sub (re_rd (re_blt (b_min rfl T.n_min) (rar_cons (re_rd (re_var 4)) (rar_cons (re_rd (re_var 2)) (rar_nil))))) (re_rd (re_int))))))))
    (rss_one (rs_set 4 sc_q_rounds.nd (re_div (re_rd (re_var 4)) (re_rd (re_ix hr (re_varR 3) (re_rd (re_neg (re_rd (re_int))))))))))
    (rss_nil))
    (rss_one (rs_set 0 sc_q_rounds.nd (re_div (re_rd (re_var 0)) (re_rd (re_int))))))))
    (rss_one (rs_ret (re_blt (b_tuple T.n_tuple) (rar_cons (re_varR 3) (rar_nil)))))))
theorem b_q_cell (T : Txt P w K mg base) {f : Addr} (cdv : Value) (A : Around) (outer : List PySem.Env) (s : Shared) (H : Hp) (E : XK) (hr : Room 0 (A.deeper (envOfC "_law_cell" (defScope s_q_cell) s.heap.objs.size f cdv))) :
    RSs (cxOf (L2.CX P w) P w K mg base N_q_cell "_law_cell" (defScope s_q_cell) f cdv A outer s H E) (WD E) .S (defBody s_q_cell) e_q_cell :=
  rss_cons (rs_set 2 sc_q_cell.nd (re_int))
    (rss_cons (rs_if (rt_cp (c_gt) (re_rd (re_blt (b_len T.n_len) (rar_cons (re_rd (re_var 0)) (rar_nil)))) (re_rd (re_int)))
    (rss_one (rs_set 2 sc_q_cell.nd (re_ix hr (re_rd (re_var 0)) (re_rd (re_mod (re_rd (re_var 1)) (re_rd (re_blt (b_len T.n_len) (rar_cons (re_rd (re_var 0)) (rar_nil)))))))))
    (rss_nil))
    (rss_cons (rs_if (rt_cp (c_eq hr) (re_rd (re_mod (re_rd (re_blt (b_sum rfl T.n_sum) (rar_cons (re_rd (re_var 0)) (rar_nil)))) (re_rd (re_int)))) (re_rd (re_int)))
    (rss_one (rs_ret (re_var 2)))
    (rss_nil))
    (rss_cons (rs_set 3 sc_q_cell.nd (re_mod (re_rd (re_mul (re_rd (re_add (re_rd (re_add (re_rd (re_mod (re_rd (re_var 2)) (re_rd (re_int)))) (re_rd (re_mul (re_rd (re_int)) (re_rd (re_var 1)))))) (re_rd (re_int)))) (re_rd (re_int)))) (re_rd (re_int))))
    (rss_one (rs_ret (re_add (re_rd (re_mul (re_rd (re_mod (re_rd (re_add (re_rd (re_mul (re_rd (re_var 3)) (re_rd (re_int)))) (re_rd (re_mul (re_rd (re_int)) (re_rd (re_var 1)))))) (re_rd (re_int)))) (re_rd (re_int)))) (re_rd (re_mod (re_rd (re_mul (re_rd (re_var 3)) (re_rd (re_int)))) (re_rd (re_int))))))))))
theorem b_q_members (T : Txt P w K mg base) {f : Addr} (cdv : Value) (A : Around) (outer : List PySem.Env) (s : Shared) (H : Hp) (E : XK) (hr : Room 0 (A.deeper (envOfC "_law_members" (defScope s_q_members) s.heap.objs.size f cdv))) :
    RSs (cxOf (L2.CX P w) P w K mg base N_q_members "_law_members" (defScope s_q_members) f cdv A outer s H E) (WD E) .S (defBody s_q_members) e_q_members :=
  rss_cons (rs_set 1 sc_q_members.nd (re_share (re_lst (ra_cons (re_tup (ra_nil)) (ra_nil)))))
    (rss_cons (rs_for (passes_of rfl) rfl (by exact (re_iter (re_var 0))) (by exact (gN 2 sc_q_members.nd))
    (by exact (rss_cons (rs_setO 3 sc_q_members.nd (re_lst (ra_nil)))
    (rss_cons (rs_for (passes_of rfl) rfl (by exact (re_iter (re_var 1))) (by exact (gN 4 sc_q_members.nd))
    (by exact (rss_one (rs_for (passes_of rfl) rfl (by exact (ri_range1 (b := true) T.n_range (rar_cons (re_rd (re_var 2)) (rar_nil)))) (by exact (gN 5 sc_q_members.nd))
    (by exact (rss_one (rs_append 3 (re_add (re_rd (re_var 4)) (re_rd (re_tup (ra_cons (re_var 5) (ra_nil))))))))))))
    (rss_one (rs_frz 3 (rs_set 1 sc_q_members.nd (re_var 3))))))))
    (rss_one (rs_ret (re_var 1))))
theorem b_q_element (T : Txt P w K mg base) {f : Addr} (cdv : Value) (A : Around) (outer : List PySem.Env) (s : Shared) (H : Hp) (E : XK) (hr : Room 0 (A.deeper (envOfC "_law_element" (defScope s_q_element) s.heap.objs.size f cdv))) :
    RSs (cxOf (L2.CX P w) P w K mg base N_q_element "_law_element" (defScope s_q_element) f cdv A outer s H E) (WD E) .S (defBody s_q_element) e_q_element :=
  rss_cons (rs_setO 2 sc_q_element.nd (re_lst (ra_nil)))
    (rss_cons (rs_for (passes_of rfl) rfl (by exact (re_iter (re_var 0))) (by exact (gN 3 sc_q_element.nd))
    (by exact (rss_cons (rs_append 2 (re_mod (re_rd (re_var 1)) (re_rd (re_var 3))))
    (rss_one (rs_set 1 sc_q_element.nd (re_div (re_rd (re_var 1)) (re_rd (re_var 3))))))))
    (rss_one (rs_ret (re_blt (b_tuple T.n_tuple) (rar_cons (re_varR 2) (rar_nil))))))
theorem b_q_added (T : Txt P w K mg base) {f : Addr} (cdv : Value) (A : Around) (outer : List PySem.Env) (s : Shared) (H : Hp) (E : XK) (hr : Room 0 (A.deeper (envOfC "_law_added" (defScope s_q_added) s.heap.objs.size f cdv))) :
    RSs (cxOf (L2.CX P w) P w K mg base N_q_added "_law_added" (defScope s_q_added) f cdv A outer s H E) (WD E) .S (defBody s_q_added) e_q_added :=
  rss_one (rs_ret (re_blt (b_tuple T.n_tuple) (rar_cons (re_rd (re_lc [("_law_k", 3)] rfl sc_q_added.nd (ri_range1 (b := true) T.n_range (rar_cons (re_rd (re_blt (b_len T.n_len) (rar_cons (re_rd (re_var 0)) (rar_nil)))) (rar_nil))) (blkOk_by (N := N_q_added) (sc := defScope s_q_added) (by decide +kernel)) (fun _ _ _ _ _ _ => by exact (gN 3 sc_q_added.nd)) (fun _ _ _ _ _ => by exact (rts_nil)) (fun _ _ _ _ _ => by exact (re_mod (re_rd (re_add (re_rd (re_ix hr (re_rd (re_var 1)) (re_rd (re_var 3)))) (re_rd (re_ix hr (re_rd (re_var 2)) (re_rd (re_var 3)))))) (re_rd (re_ix hr (re_rd (re_var 0)) (re_rd (re_var 3)))))))) (rar_nil))))
theorem b_q_times (T : Txt P w K mg base) {f : Addr} (cdv : Value) (A : Around) (outer : List PySem.Env) (s : Shared) (H : Hp) (E : XK) (hr : Room 0 (A.deeper (envOfC "_law_times" (defScope s_q_times) s.heap.objs.size f cdv))) :
    RSs (cxOf (L2.CX P w) P w K mg base N_q_times "_law_times" (defScope s_q_times) f cdv A outer s H E) (WD E) .S (defBody s_q_times) e_q_times :=
  rss_one (rs_ret (re_blt (b_tuple T.n_tuple) (rar_cons (re_rd (re_lc [("_law_k", 3)] rfl sc_q_times.nd (ri_range1 (b := true) T.n_range (rar_cons (re_rd (re_blt (b_len T.n_len) (rar_cons (re_rd (re_var 0)) (rar_nil)))) (rar_nil))) (blkOk_by (N := N_q_times) (sc := defScope s_q_times) (by decide +kernel)) (fun _ _ _ _ _ _ => by exact (gN 3 sc_q_times.nd)) (fun _ _ _ _ _ => by exact (rts_nil)) (fun _ _ _ _ _ => by exact (re_mod (re_rd (re_mul (re_rd (re_var 1)) (re_rd (re_ix hr (re_rd (re_var 2)) (re_rd (re_var 3)))))) (re_rd (re_ix hr (re_rd (re_var 0)) (re_rd (re_var 3)))))))) (rar_nil))))
theorem b_q_table (T : Txt P w K mg base) (M_q_members : FnM P w K mg base 1 "_law_members" .S d_q_members) (M_q_element : FnM P w K mg base 1 "_law_element" .S d_q_element) (M_q_added : FnM P w K mg base 1 "_law_added" .S d_q_added) (M_q_times : FnM P w K mg base 1 "_law_times" .S d_q_times) {f : Addr} (cdv : Value) (A : Around) (outer : List PySem.Env) (s : Shared) (H : Hp) (E : XK) (hr : Room 1 (A.deeper (envOfC "_law_table" (defScope s_q_table) s.heap.objs.size f cdv))) :
    RSs (cxOf (L2.CX P w) P w K mg base N_q_table "_law_table" (defScope s_q_table) f cdv A outer s H E) (WD E) .S (defBody s_q_table) e_q_table :=
  rss_cons (rs_set 3 sc_q_table.nd (re_call M_q_members (hr.mono (by decide)) (takes_of rfl rfl rfl rfl) (ra_cons (re_var 1) (ra_nil))))
    (rss_cons (rs_setO 4 sc_q_table.nd (re_dic0))
    (rss_cons (rs_for (passes_of rfl) rfl (by exact (ri_enumS T.n_enumerate (ra_cons (re_var 3) (ra_nil)))) (by exact (gT 2 rfl (gsc (gN 5 sc_q_table.nd) (gsc (gN 6 sc_q_table.nd) (gs0)))))
    (by exact (rss_one (rs_setItem 4 hr (re_call M_q_element (hr.mono (by decide)) (takes_of rfl rfl rfl rfl) (ra_cons (re_var 0) (ra_cons (re_div (re_rd (re_ix hr (re_rd (re_var 2)) (re_rd (re_int)))) (re_rd (re_add (re_rd (re_mul (re_rd (re_int)) (re_rd (re_var 5)))) (re_rd (re_int))))) (ra_nil)))) (re_rd (re_var 6))))))
    (rss_cons (rs_setO 7 sc_q_table.nd (re_dic0))
    (rss_cons (rs_for (passes_of rfl) rfl (by exact (re_iter (re_var 3))) (by exact (gN 6 sc_q_table.nd))
    (by exact (rss_one (rs_for (passes_of rfl) rfl (by exact (re_iter (re_var 3))) (by exact (gN 8 sc_q_table.nd))
    (by exact (rss_cons (rs_set 9 sc_q_table.nd (re_call M_q_added (hr.mono (by decide)) (takes_of rfl rfl rfl rfl) (ra_cons (re_var 0) (ra_cons (re_ix hr (re_varR 4) (re_rd (re_var 6))) (ra_cons (re_ix hr (re_varR 4) (re_rd (re_var 8))) (ra_nil))))))
    (rss_cons (rs_set 9 sc_q_table.nd (re_call M_q_added (hr.mono (by decide)) (takes_of rfl rfl rfl rfl) (ra_cons (re_var 0) (ra_cons (re_var 9) (ra_cons (re_call M_q_times (hr.mono (by decide)) (takes_of rfl rfl rfl rfl) (ra_cons (re_var 0) (ra_cons (re_neg (re_rd (re_int))) (ra_cons (re_ix hr (re_varR 4) (re_rd (re_call M_q_added (hr.mono (by decide)) (takes_of rfl rfl rfl rfl) (ra_cons (re_var 1) (ra_cons (re_var 6) (ra_cons (re_var 8) (ra_nil))))))) (ra_nil))))) (ra_nil))))))
    (rss_cons (rs_for (passes_of rfl) rfl (by exact (ri_range1 (b := true) T.n_range (rar_cons (re_rd (re_blt (b_len T.n_len) (rar_cons (re_rd (re_var 1)) (rar_nil)))) (rar_nil)))) (by exact (gN 10 sc_q_table.nd))
    (by exact (rss_one (rs_if (rt_cp (c_ge) (re_rd (re_add (re_rd (re_ix hr (re_rd (re_var 6)) (re_rd (re_var 10)))) (re_rd (re_ix hr (re_rd (re_var 8)) (re_rd (re_var 10)))))) (re_rd (re_ix hr (re_rd (re_var 1)) (re_rd (re_var 10)))))
    (rss_one (rs_set 9 sc_q_table.nd (re_call M_q_added (hr.mono (by decide)) (takes_of rfl rfl rfl rfl) (ra_cons (re_var 0) (ra_cons (re_var 9) (ra_cons (re_call M_q_element (hr.mono (by decide)) (takes_of rfl rfl rfl rfl) (ra_cons (re_var 0) (ra_cons (re_div (re_rd (re_ix hr (re_rd (re_var 2)) (re_rd (re_int)))) (re_rd (re_add (re_rd (re_mul (re_rd (re_int)) (re_rd (re_var 10)))) (re_rd (re_int))))) (ra_nil)))) (ra_nil)))))))
    (rss_nil)))))
    (rss_one (rs_setItem 7 hr (re_var 9) (re_rd (re_tup (ra_cons (re_var 6) (ra_cons (re_var 8) (ra_nil)))))))))))))))
    (rss_one (rs_frz 7 (rs_ret (re_var 7))))))))
theorem b_q_paired (T : Txt P w K mg base) (M_q_added : FnM P w K mg base 1 "_law_added" .S d_q_added) (M_q_times : FnM P w K mg base 1 "_law_times" .S d_q_times) {f : Addr} (cdv : Value) (A : Around) (outer : List PySem.Env) (s : Shared) (H : Hp) (E : XK) (hr : Room 1 (A.deeper (envOfC "_law_paired" (defScope s_q_paired) s.heap.objs.size f cdv))) :
    RSs (cxOf (L2.CX P w) P w K mg base N_q_paired "_law_paired" (defScope s_q_paired) f cdv A outer s H E) (WD E) .S (defBody s_q_paired) e_q_paired :=
  rss_cons (rs_setO 6 sc_q_paired.nd (re_dic0))
    (rss_cons (rs_for (passes_of rfl) rfl (by exact (re_iter (re_var 2))) (by exact (gT 2 rfl (gsc (gN 7 sc_q_paired.nd) (gsc (gN 8 sc_q_paired.nd) (gs0)))))
    (by exact (rss_one (rs_setItem 6 hr (re_call M_q_added (hr.mono (by decide)) (takes_of rfl rfl rfl rfl) (ra_cons (re_var 0) (ra_cons (re_ix hr (re_rd (re_var 2)) (re_rd (re_tup (ra_cons (re_var 7) (ra_cons (re_var 8) (ra_nil)))))) (ra_cons (re_call M_q_times (hr.mono (by decide)) (takes_of rfl rfl rfl rfl) (ra_cons (re_var 0) (ra_cons (re_mul (re_rd (re_ix hr (re_rd (re_var 7)) (re_rd (re_var 3)))) (re_rd (re_ix hr (re_rd (re_var 8)) (re_rd (re_var 4))))) (ra_cons (re_var 5) (ra_nil))))) (ra_nil))))) (re_rd (re_tup (ra_cons (re_var 7) (ra_cons (re_var 8) (ra_nil)))))))))
    (rss_one (rs_frz 6 (rs_ret (re_var 6)))))
theorem b_q_gcd (T : Txt P w K mg base) {f : Addr} (cdv : Value) (A : Around) (outer : List PySem.Env) (s : Shared) (H : Hp) (E : XK) (hr : Room 0 (A.deeper (envOfC "_law_gcd" (defScope s_q_gcd) s.heap.objs.size f cdv))) :
    RSs (cxOf (L2.CX P w) P w K mg base N_q_gcd "_law_gcd" (defScope s_q_gcd) f cdv A outer s H E) (WD E) .S (defBody s_q_gcd) e_q_gcd :=
  rss_cons (rs_loop (passes_of rfl) (by exact (rt_cp (c_ne hr) (re_rd (re_var 1)) (re_rd (re_int)))) (by exact (rss_one (rs_par 0 1 rfl sc_q_gcd.nd (ra_cons (re_var 1) (ra_cons (re_mod (re_rd (re_var 0)) (re_rd (re_var 1))) (ra_nil)))))))
    (rss_one (rs_ret (re_var 0)))
theorem b_q_odd_element (T : Txt P w K mg base) (M_q_gcd : FnM P w K mg base 1 "_law_gcd" .S d_q_gcd) {f : Addr} (cdv : Value) (A : Around) (outer : List PySem.Env) (s : Shared) (H : Hp) (E : XK) (hr : Room 1 (A.deeper (envOfC "_law_odd_element" (defScope s_q_odd_element) s.heap.objs.size f cdv))) :
    RSs (cxOf (L2.CX P w) P w K mg base N_q_odd_element "_law_odd_element" (defScope s_q_odd_element) f cdv A outer s H E) (WD E) .S (defBody s_q_odd_element) e_q_odd_element :=
  rss_cons (rs_setO 4 sc_q_odd_element.nd (re_lst (ra_nil)))
    (rss_cons (rs_for (passes_of rfl) rfl (by exact (re_iter (re_var 0))) (by exact (gN 5 sc_q_odd_element.nd))
    (by exact (rss_cons (rs_set 6 sc_q_odd_element.nd (re_call M_q_gcd (hr.mono (by decide)) (takes_of rfl rfl rfl rfl) (ra_cons (re_var 5) (ra_cons (re_call M_q_gcd (hr.mono (by decide)) (takes_of rfl rfl rfl rfl) (ra_cons (re_var 1) (ra_cons (re_var 2) (ra_nil)))) (ra_nil)))))
    (rss_cons (rs_append 4 (re_mul (re_rd (re_div (re_rd (re_var 5)) (re_rd (re_var 6)))) (re_rd (re_mod (re_rd (re_var 3)) (re_rd (re_var 6))))))
    (rss_one (rs_set 3 sc_q_odd_element.nd (re_div (re_rd (re_var 3)) (re_rd (re_var 6)))))))))
    (rss_one (rs_ret (re_blt (b_tuple T.n_tuple) (rar_cons (re_varR 4) (rar_nil))))))
theorem b_q_ground (T : Txt P w K mg base) (M_q_rounds : FnM P w K mg base 1 "_law_rounds" .S d_q_rounds) (M_q_cell : FnM P w K mg base 1 "_law_cell" .S d_q_cell) (M_q_table : FnM P w K mg base 2 "_law_table" .S d_q_table) (M_q_paired : FnM P w K mg base 2 "_law_paired" .S d_q_paired) (M_q_odd_element : FnM P w K mg base 2 "_law_odd_element" .S d_q_odd_element) {f : Addr} (cdv : Value) (A : Around) (outer : List PySem.Env) (s : Shared) (H : Hp) (E : XK) (hr : Room 2 (A.deeper (envOfC "_law_ground" (defScope s_q_ground) s.heap.objs.size f cdv))) :
    RSs (cxOf (L2.CX P w) P w K mg base N_q_ground "_law_ground" (defScope s_q_ground) f cdv A outer s H E) (WD E) .S (defBody s_q_ground) e_q_ground :=
  rss_cons (rs_set 1 sc_q_ground.nd (re_call M_q_rounds (hr.mono (by decide)) (takes_of rfl rfl rfl rfl) (ra_cons (re_call M_q_cell (hr.mono (by decide)) (takes_of rfl rfl rfl rfl) (ra_cons (re_var 0) (ra_cons (re_int) (ra_nil)))) (ra_cons (re_int) (ra_cons (re_int) (ra_nil))))))
    (rss_cons (rs_set 2 sc_q_ground.nd (re_call M_q_rounds (hr.mono (by decide)) (takes_of rfl rfl rfl rfl) (ra_cons (re_call M_q_cell (hr.mono (by decide)) (takes_of rfl rfl rfl rfl) (ra_cons (re_var 0) (ra_cons (re_int) (ra_nil)))) (ra_cons (re_int) (ra_cons (re_int) (ra_nil))))))
    (rss_cons (rs_set 3 sc_q_ground.nd (re_call M_q_cell (hr.mono (by decide)) (takes_of rfl rfl rfl rfl) (ra_cons (re_var 0) (ra_cons (re_int) (ra_nil)))))
    (rss_cons (rs_if (rt_cp (c_eq hr) (re_rd (re_mod (re_rd (re_var 3)) (re_rd (re_int)))) (re_rd (re_int)))
    (rss_one (rs_set 2 sc_q_ground.nd (re_tup (ra_cons (re_int) (ra_cons (re_int) (ra_nil))))))
    (rss_nil))
    (rss_cons (rs_set 4 sc_q_ground.nd (re_call M_q_table (hr.mono (by decide)) (takes_of rfl rfl rfl rfl) (ra_cons (re_var 1) (ra_cons (re_var 2) (ra_cons (re_share (re_lst (ra_cons (re_call M_q_cell (hr.mono (by decide)) (takes_of rfl rfl rfl rfl) (ra_cons (re_var 0) (ra_cons (re_int) (ra_nil)))) (ra_cons (re_call M_q_cell (hr.mono (by decide)) (takes_of rfl rfl rfl rfl) (ra_cons (re_var 0) (ra_cons (re_int) (ra_nil)))) (ra_nil))))) (ra_nil))))))
    (rss_cons (rs_if (rt_cp (c_eq hr) (re_rd (re_mod (re_rd (re_var 3)) (re_rd (re_int)))) (re_rd (re_int)))
    (rss_one (rs_set 4 sc_q_ground.nd (re_call M_q_paired (hr.mono (by decide)) (takes_of rfl rfl rfl rfl) (ra_cons (re_var 1) (ra_cons (re_var 2) (ra_cons (re_var 4) (ra_cons (re_int) (ra_cons (re_int) (ra_cons (re_call M_q_odd_element (hr.mono (by decide)) (takes_of rfl rfl rfl rfl) (ra_cons (re_var 1) (ra_cons (re_int) (ra_cons (re_int) (ra_cons (re_div (re_rd (re_var 3)) (re_rd (re_int))) (ra_nil)))))) (ra_nil))))))))))
    (rss_nil))
    (rss_one (rs_ret (re_tup (ra_cons (re_var 1) (ra_cons (re_var 2) (ra_cons (re_var 4) (ra_nil))))))))))))
theorem b_Rounds_members (T : Txt P w K mg base) {f : Addr} (cdv : Value) (A : Around) (outer : List PySem.Env) (s : Shared) (H : Hp) (E : XK) (hr : Room 0 (A.deeper (envOfC "Rounds.members" (defScope s_Rounds_members) s.heap.objs.size f cdv))) :
    RSs (cxOf (L2.CX P w) P w K mg base N_Rounds_members "Rounds.members" (defScope s_Rounds_members) f cdv A outer s H E) (WD E) .S (defBody s_Rounds_members) e_Rounds_members :=
  rss_cons (rs_set 1 sc_Rounds_members.nd (re_share (re_lst (ra_cons (re_tup (ra_nil)) (ra_nil)))))
    (rss_cons (rs_for (passes_of rfl) rfl (by exact (re_iter (re_fld T.f_rounds (re_var 0)))) (by exact (gN 2 sc_Rounds_members.nd))
    (by exact (rss_cons (rs_setO 3 sc_Rounds_members.nd (re_lst (ra_nil)))
    (rss_cons (rs_for (passes_of rfl) rfl (by exact (re_iter (re_var 1))) (by exact (gN 4 sc_Rounds_members.nd))
    (by exact (rss_one (rs_extend 3 (re_share (re_lc [("here", 5)] rfl sc_Rounds_members.nd (ri_range1 (b := true) T.n_range (rar_cons (re_rd (re_var 2)) (rar_nil))) (blkOk_by (N := N_Rounds_members) (sc := defScope s_Rounds_members) (by decide +kernel)) (fun _ _ _ _ _ _ => by exact (gN 5 sc_Rounds_members.nd)) (fun _ _ _ _ _ => by exact (rts_nil)) (fun _ _ _ _ _ => by exact (re_add (re_rd (re_var 4)) (re_rd (re_tup (ra_cons (re_var 5) (ra_nil))))))))))))
    (rss_one (rs_frz 3 (rs_set 1 sc_Rounds_members.nd (re_var 3))))))))
    (rss_one (rs_ret (re_var 1))))
theorem b_Tower_members (T : Txt P w K mg base) (MT_members : ∀ c g, mt_members c = some g → MtM P w K mg base 1 "members" c .S g) {f : Addr} (cdv : Value) (A : Around) (outer : List PySem.Env) (s : Shared) (H : Hp) (E : XK) (hr : Room 1 (A.deeper (envOfC "Tower.members" (defScope s_Tower_members) s.heap.objs.size f cdv))) :
    RSs (cxOf (L2.CX P w) P w K mg base N_Tower_members "Tower.members" (defScope s_Tower_members) f cdv A outer s H E) (WD E) .S (defBody s_Tower_members) e_Tower_members :=
  rss_cons (rs_setO 1 sc_Tower_members.nd (re_lst (ra_nil)))
    (rss_cons (rs_for (passes_of rfl) rfl (by exact (re_iter (re_meth0 MT_members (hr.mono (by decide)) (takes_of rfl rfl rfl rfl) (re_fld T.f_lower (re_fld T.f_table (re_var 0)))))) (by exact (gN 2 sc_Tower_members.nd))
    (by exact (rss_one (rs_extend 1 (re_share (re_lc [("x", 3)] rfl sc_Tower_members.nd (re_iter (re_meth0 MT_members (hr.mono (by decide)) (takes_of rfl rfl rfl rfl) (re_fld T.f_upper (re_fld T.f_table (re_var 0))))) (blkOk_by (N := N_Tower_members) (sc := defScope s_Tower_members) (by decide +kernel)) (fun _ _ _ _ _ _ => by exact (gN 3 sc_Tower_members.nd)) (fun _ _ _ _ _ => by exact (rts_nil)) (fun _ _ _ _ _ => by exact (re_tup (ra_cons (re_var 2) (ra_cons (re_var 3) (ra_nil)))))))))))
    (rss_one (rs_frz 1 (rs_ret (re_var 1)))))
theorem b_is_whole (T : Txt P w K mg base) {f : Addr} (cdv : Value) (A : Around) (outer : List PySem.Env) (s : Shared) (H : Hp) (E : XK) (hr : Room 0 (A.deeper (envOfC "is_whole" (defScope s_is_whole) s.heap.objs.size f cdv))) :
    RSs (cxOf (L2.CX P w) P w K mg base N_is_whole "is_whole" (defScope s_is_whole) f cdv A outer s H E) (WD E) .S (defBody s_is_whole) e_is_whole :=
  rss_one (rs_ret (re_and (re_blt (b_is T.isM T.n_isinstance) (rar_cons (re_rd (re_var 0)) (rar_cons (re_rd (re_ty T.n_int boot_ty_int)) (rar_nil)))) (re_one (re_not (re_blt (b_is T.isM T.n_isinstance) (rar_cons (re_rd (re_var 0)) (rar_cons (re_rd (re_ty T.n_bool boot_ty_bool)) (rar_nil))))))))
theorem b_Rounds_has (T : Txt P w K mg base) (M_is_whole : FnM P w K mg base 1 "is_whole" .S d_is_whole) {f : Addr} (cdv : Value) (A : Around) (outer : List PySem.Env) (s : Shared) (H : Hp) (E : XK) (hr : Room 1 (A.deeper (envOfC "Rounds.has" (defScope s_Rounds_has) s.heap.objs.size f cdv))) :
    RSs (cxOf (L2.CX P w) P w K mg base N_Rounds_has "Rounds.has" (defScope s_Rounds_has) f cdv A outer s H E) (WD E) .S (defBody s_Rounds_has) e_Rounds_has :=
  rss_cons (rs_if (rt_pw (rw_or (rt_not (rt_val (re_blt (b_is T.isM T.n_isinstance) (rar_cons (re_rd (re_var 1)) (rar_cons (re_rd (re_ty T.n_tuple boot_ty_tuple)) (rar_nil)))))) (rw_or1 (rt_cp (c_ne hr) (re_rd (re_blt (b_len T.n_len) (rar_cons (re_rd (re_var 1)) (rar_nil)))) (re_rd (re_blt (b_len T.n_len) (rar_cons (re_rd (re_fld T.f_rounds (re_var 0))) (rar_nil))))))))
    (rss_one (rs_ret (re_bl)))
    (rss_nil))
    (rss_cons (rs_for (passes_of rfl) rfl (by exact (ri_zip2 T.n_zip (ra_cons (re_var 1) (ra_cons (re_fld T.f_rounds (re_var 0)) (ra_nil))))) (by exact (gT 2 rfl (gsc (gN 2 sc_Rounds_has.nd) (gsc (gN 3 sc_Rounds_has.nd) (gs0)))))
    (by exact (rss_one (rs_if (rt_pw (rw_or (rt_not (rt_val (re_call M_is_whole (hr.mono (by decide)) (takes_of rfl rfl rfl rfl) (ra_cons (re_var 2) (ra_nil))))) (rw_or (rt_cp (c_lt) (re_rd (re_var 2)) (re_rd (re_int))) (rw_or1 (rt_cp (c_ge) (re_rd (re_var 2)) (re_rd (re_var 3)))))))
    (rss_one (rs_ret (re_bl)))
    (rss_nil)))))
    (rss_one (rs_ret (re_bl))))
theorem b_Group_look_at (T : Txt P w K mg base) (MT_has : ∀ c g, mt_has c = some g → MtM P w K mg base 2 "has" c .S g) {f : Addr} (cdv : Value) (A : Around) (outer : List PySem.Env) (s : Shared) (H : Hp) (E : XK) (hr : Room 2 (A.deeper (envOfC "Group.look_at" (defScope s_Group_look_at) s.heap.objs.size f cdv))) :
    RSs (cxOf (L2.CX P w) P w K mg base N_Group_look_at "Group.look_at" (defScope s_Group_look_at) f cdv A outer s H E) (WD E) .S (defBody s_Group_look_at) e_Group_look_at :=
  rss_one (rs_if (rt_not (rt_val (re_meth MT_has (hr.mono (by decide)) (takes_of rfl rfl rfl rfl) (re_var 0) (ra_cons (re_var 1) (ra_nil)))))
    (rss_one (rs_raise0 T.e_NoElement rfl (takes_of rfl rfl rfl rfl)))
    (rss_nil))
theorem b_Rounds_put (T : Txt P w K mg base) {f : Addr} (cdv : Value) (A : Around) (outer : List PySem.Env) (s : Shared) (H : Hp) (E : XK) (hr : Room 0 (A.deeper (envOfC "Rounds.put" (defScope s_Rounds_put) s.heap.objs.size f cdv))) :
    RSs (cxOf (L2.CX P w) P w K mg base N_Rounds_put "Rounds.put" (defScope s_Rounds_put) f cdv A outer s H E) (WD E) .S (defBody s_Rounds_put) e_Rounds_put :=
  rss_one (rs_ret (re_blt (b_tuple T.n_tuple) (rar_cons (re_rd (re_lc [("a", 3), ("b", 4), ("number", 5)] rfl sc_Rounds_put.nd (ri_zip3 T.n_zip (ra_cons (re_var 1) (ra_cons (re_var 2) (ra_cons (re_fld T.f_rounds (re_var 0)) (ra_nil))))) (blkOk_by (N := N_Rounds_put) (sc := defScope s_Rounds_put) (by decide +kernel)) (fun _ _ _ _ _ _ => by exact (gT 3 rfl (gsc (gN 3 sc_Rounds_put.nd) (gsc (gN 4 sc_Rounds_put.nd) (gsc (gN 5 sc_Rounds_put.nd) (gs0)))))) (fun _ _ _ _ _ => by exact (rts_nil)) (fun _ _ _ _ _ => by exact (re_mod (re_rd (re_add (re_rd (re_var 3)) (re_rd (re_var 4)))) (re_rd (re_var 5)))))) (rar_nil))))
theorem b_Group_added (T : Txt P w K mg base) (MT_look_at : ∀ c g, mt_look_at c = some g → MtM P w K mg base 3 "look_at" c .S g) (MT_put : ∀ c g, mt_put c = some g → MtM P w K mg base 1 "put" c .S g) {f : Addr} (cdv : Value) (A : Around) (outer : List PySem.Env) (s : Shared) (H : Hp) (E : XK) (hr : Room 3 (A.deeper (envOfC "Group.added" (defScope s_Group_added) s.heap.objs.size f cdv))) :
    RSs (cxOf (L2.CX P w) P w K mg base N_Group_added "Group.added" (defScope s_Group_added) f cdv A outer s H E) (WD E) .S (defBody s_Group_added) e_Group_added :=
  rss_cons (rs_expr (re_meth MT_look_at (hr.mono (by decide)) (takes_of rfl rfl rfl rfl) (re_var 0) (ra_cons (re_var 1) (ra_nil))))
    (rss_cons (rs_expr (re_meth MT_look_at (hr.mono (by decide)) (takes_of rfl rfl rfl rfl) (re_var 0) (ra_cons (re_var 2) (ra_nil))))
    (rss_one (rs_ret (re_meth MT_put (hr.mono (by decide)) (takes_of rfl rfl rfl rfl) (re_var 0) (ra_cons (re_var 1) (ra_cons (re_var 2) (ra_nil)))))))
theorem b_Tower_has (T : Txt P w K mg base) (MT_has : ∀ c g, mt_has c = some g → MtM P w K mg base 2 "has" c .S g) {f : Addr} (cdv : Value) (A : Around) (outer : List PySem.Env) (s : Shared) (H : Hp) (E : XK) (hr : Room 2 (A.deeper (envOfC "Tower.has" (defScope s_Tower_has) s.heap.objs.size f cdv))) :
    RSs (cxOf (L2.CX P w) P w K mg base N_Tower_has "Tower.has" (defScope s_Tower_has) f cdv A outer s H E) (WD E) .S (defBody s_Tower_has) e_Tower_has :=
  rss_cons (rs_if (rt_pw (rw_or (rt_not (rt_val (re_blt (b_is T.isM T.n_isinstance) (rar_cons (re_rd (re_var 1)) (rar_cons (re_rd (re_ty T.n_tuple boot_ty_tuple)) (rar_nil)))))) (rw_or1 (rt_cp (c_ne hr) (re_rd (re_blt (b_len T.n_len) (rar_cons (re_rd (re_var 1)) (rar_nil)))) (re_rd (re_int))))))
    (rss_one (rs_ret (re_bl)))
    (rss_nil))
    (rss_one (rs_ret (re_and (re_meth MT_has (hr.mono (by decide)) (takes_of rfl rfl rfl rfl) (re_fld T.f_lower (re_fld T.f_table (re_var 0))) (ra_cons (re_ix hr (re_rd (re_var 1)) (re_rd (re_int))) (ra_nil))) (re_one (re_meth MT_has (hr.mono (by decide)) (takes_of rfl rfl rfl rfl) (re_fld T.f_upper (re_fld T.f_table (re_var 0))) (ra_cons (re_ix hr (re_rd (re_var 1)) (re_rd (re_int))) (ra_nil)))))))
theorem b_Group_look_at_1 (T : Txt P w K mg base) (MT_has_T : ∀ c g, mt_has_T c = some g → MtM P w K mg base 3 "has" c .S g) {f : Addr} (cdv : Value) (A : Around) (outer : List PySem.Env) (s : Shared) (H : Hp) (E : XK) (hr : Room 3 (A.deeper (envOfC "Group.look_at" (defScope s_Group_look_at) s.heap.objs.size f cdv))) :
    RSs (cxOf (L2.CX P w) P w K mg base N_Group_look_at "Group.look_at" (defScope s_Group_look_at) f cdv A outer s H E) (WD E) .S (defBody s_Group_look_at) e_Group_look_at_1 :=
  rss_one (rs_if (rt_not (rt_val (re_meth MT_has_T (hr.mono (by decide)) (takes_of rfl rfl rfl rfl) (re_var 0) (ra_cons (re_var 1) (ra_nil)))))
    (rss_one (rs_raise0 T.e_NoElement rfl (takes_of rfl rfl rfl rfl)))
    (rss_nil))
theorem b_Table_carry (T : Txt P w K mg base) (MT_has : ∀ c g, mt_has c = some g → MtM P w K mg base 2 "has" c .S g) {f : Addr} (cdv : Value) (A : Around) (outer : List PySem.Env) (s : Shared) (H : Hp) (E : XK) (hr : Room 2 (A.deeper (envOfC "Table.carry" (defScope s_Table_carry) s.heap.objs.size f cdv))) :
    RSs (cxOf (L2.CX P w) P w K mg base N_Table_carry "Table.carry" (defScope s_Table_carry) f cdv A outer s H E) (WD E) .S (defBody s_Table_carry) e_Table_carry :=
  rss_cons (rs_if (rt_pw (rw_or (rt_not (rt_val (re_meth MT_has (hr.mono (by decide)) (takes_of rfl rfl rfl rfl) (re_fld T.f_upper (re_var 0)) (ra_cons (re_var 1) (ra_nil))))) (rw_or1 (rt_not (rt_val (re_meth MT_has (hr.mono (by decide)) (takes_of rfl rfl rfl rfl) (re_fld T.f_upper (re_var 0)) (ra_cons (re_var 2) (ra_nil))))))))
    (rss_one (rs_raise0 T.e_NoElement rfl (takes_of rfl rfl rfl rfl)))
    (rss_nil))
    (rss_one (rs_ret (re_ix hr (re_rd (re_fld T.f_kept (re_var 0))) (re_rd (re_tup (ra_cons (re_var 1) (ra_cons (re_var 2) (ra_nil))))))))
theorem b_Tower_put (T : Txt P w K mg base) (MT_carry : ∀ c g, mt_carry c = some g → MtM P w K mg base 3 "carry" c .S g) (MT_put : ∀ c g, mt_put c = some g → MtM P w K mg base 1 "put" c .S g) {f : Addr} (cdv : Value) (A : Around) (outer : List PySem.Env) (s : Shared) (H : Hp) (E : XK) (hr : Room 3 (A.deeper (envOfC "Tower.put" (defScope s_Tower_put) s.heap.objs.size f cdv))) :
    RSs (cxOf (L2.CX P w) P w K mg base N_Tower_put "Tower.put" (defScope s_Tower_put) f cdv A outer s H E) (WD E) .S (defBody s_Tower_put) e_Tower_put :=
  rss_cons (rs_set 3 sc_Tower_put.nd (re_fld T.f_lower (re_fld T.f_table (re_var 0))))
    (rss_cons (rs_set 4 sc_Tower_put.nd (re_meth MT_carry (hr.mono (by decide)) (takes_of rfl rfl rfl rfl) (re_fld T.f_table (re_var 0)) (ra_cons (re_ix hr (re_rd (re_var 1)) (re_rd (re_int))) (ra_cons (re_ix hr (re_rd (re_var 2)) (re_rd (re_int))) (ra_nil)))))
    (rss_one (rs_ret (re_tup (ra_cons (re_meth MT_put (hr.mono (by decide)) (takes_of rfl rfl rfl rfl) (re_var 3) (ra_cons (re_meth MT_put (hr.mono (by decide)) (takes_of rfl rfl rfl rfl) (re_var 3) (ra_cons (re_ix hr (re_rd (re_var 1)) (re_rd (re_int))) (ra_cons (re_ix hr (re_rd (re_var 2)) (re_rd (re_int))) (ra_nil)))) (ra_cons (re_var 4) (ra_nil)))) (ra_cons (re_meth MT_put (hr.mono (by decide)) (takes_of rfl rfl rfl rfl) (re_fld T.f_upper (re_fld T.f_table (re_var 0))) (ra_cons (re_ix hr (re_rd (re_var 1)) (re_rd (re_int))) (ra_cons (re_ix hr (re_rd (re_var 2)) (re_rd (re_int))) (ra_nil)))) (ra_nil)))))))
theorem b_Group_added_1 (T : Txt P w K mg base) (MT_look_at_T : ∀ c g, mt_look_at_T c = some g → MtM P w K mg base 4 "look_at" c .S g) (MT_put_T : ∀ c g, mt_put_T c = some g → MtM P w K mg base 4 "put" c .S g) {f : Addr} (cdv : Value) (A : Around) (outer : List PySem.Env) (s : Shared) (H : Hp) (E : XK) (hr : Room 4 (A.deeper (envOfC "Group.added" (defScope s_Group_added) s.heap.objs.size f cdv))) :
    RSs (cxOf (L2.CX P w) P w K mg base N_Group_added "Group.added" (defScope s_Group_added) f cdv A outer s H E) (WD E) .S (defBody s_Group_added) e_Group_added_1 :=
  rss_cons (rs_expr (re_meth MT_look_at_T (hr.mono (by decide)) (takes_of rfl rfl rfl rfl) (re_var 0) (ra_cons (re_var 1) (ra_nil))))
    (rss_cons (rs_expr (re_meth MT_look_at_T (hr.mono (by decide)) (takes_of rfl rfl rfl rfl) (re_var 0) (ra_cons (re_var 2) (ra_nil))))
    (rss_one (rs_ret (re_meth MT_put_T (hr.mono (by decide)) (takes_of rfl rfl rfl rfl) (re_var 0) (ra_cons (re_var 1) (ra_cons (re_var 2) (ra_nil)))))))
theorem b_break_of_three (T : Txt P w K mg base) (MT_members_T : ∀ c g, mt_members_T c = some g → MtM P w K mg base 2 "members" c .S g) (MT_added_T : ∀ c g, mt_added_T c = some g → MtM P w K mg base 5 "added" c .S g) (MT_carry : ∀ c g, mt_carry c = some g → MtM P w K mg base 3 "carry" c .S g) {f : Addr} (cdv : Value) (A : Around) (outer : List PySem.Env) (s : Shared) (H : Hp) (E : XK) (hr : Room 5 (A.deeper (envOfC "break_of_three" (defScope s_break_of_three) s.heap.objs.size f cdv))) :
    RSs (cxOf (L2.CX P w) P w K mg base N_break_of_three "break_of_three" (defScope s_break_of_three) f cdv A outer s H E) (WD E) .S (defBody s_break_of_three) e_break_of_three :=
  rss_cons (rs_set 1 sc_break_of_three.nd (re_fld T.f_lower (re_var 0)))
    (rss_cons (rs_set 2 sc_break_of_three.nd (re_fld T.f_upper (re_var 0)))
    (rss_cons (rs_set 3 sc_break_of_three.nd (re_meth0 MT_members_T (hr.mono (by decide)) (takes_of rfl rfl rfl rfl) (re_var 2)))
    (rss_cons (rs_for (passes_of rfl) rfl (by exact (re_iter (re_var 3))) (by exact (gN 4 sc_break_of_three.nd))
    (by exact (rss_one (rs_for (passes_of rfl) rfl (by exact (re_iter (re_var 3))) (by exact (gN 5 sc_break_of_three.nd))
    (by exact (rss_one (rs_for (passes_of rfl) rfl (by exact (re_iter (re_var 3))) (by exact (gN 6 sc_break_of_three.nd))
    (by exact (rss_cons (rs_set 7 sc_break_of_three.nd (re_meth MT_added_T (hr.mono (by decide)) (takes_of rfl rfl rfl rfl) (re_var 1) (ra_cons (re_meth MT_carry (hr.mono (by decide)) (takes_of rfl rfl rfl rfl) (re_var 0) (ra_cons (re_var 4) (ra_cons (re_var 5) (ra_nil)))) (ra_cons (re_meth MT_carry (hr.mono (by decide)) (takes_of rfl rfl rfl rfl) (re_var 0) (ra_cons (re_meth MT_added_T (hr.mono (by decide)) (takes_of rfl rfl rfl rfl) (re_var 2) (ra_cons (re_var 4) (ra_cons (re_var 5) (ra_nil)))) (ra_cons (re_var 6) (ra_nil)))) (ra_nil)))))
    (rss_cons (rs_set 8 sc_break_of_three.nd (re_meth MT_added_T (hr.mono (by decide)) (takes_of rfl rfl rfl rfl) (re_var 1) (ra_cons (re_meth MT_carry (hr.mono (by decide)) (takes_of rfl rfl rfl rfl) (re_var 0) (ra_cons (re_var 5) (ra_cons (re_var 6) (ra_nil)))) (ra_cons (re_meth MT_carry (hr.mono (by decide)) (takes_of rfl rfl rfl rfl) (re_var 0) (ra_cons (re_var 4) (ra_cons (re_meth MT_added_T (hr.mono (by decide)) (takes_of rfl rfl rfl rfl) (re_var 2) (ra_cons (re_var 5) (ra_cons (re_var 6) (ra_nil)))) (ra_nil)))) (ra_nil)))))
    (rss_one (rs_if (rt_cp (c_ne hr) (re_rd (re_var 7)) (re_rd (re_var 8)))
    (rss_one (rs_ret (re_tup (ra_cons (re_var 4) (ra_cons (re_var 5) (ra_cons (re_var 6) (ra_nil)))))))
    (rss_nil)))))))))))))
    (rss_one (rs_ret (re_non))))))
theorem b_Rounds_nought (T : Txt P w K mg base) {f : Addr} (cdv : Value) (A : Around) (outer : List PySem.Env) (s : Shared) (H : Hp) (E : XK) (hr : Room 0 (A.deeper (envOfC "Rounds.nought" (defScope s_Rounds_nought) s.heap.objs.size f cdv))) :
    RSs (cxOf (L2.CX P w) P w K mg base N_Rounds_nought "Rounds.nought" (defScope s_Rounds_nought) f cdv A outer s H E) (WD E) .S (defBody s_Rounds_nought) e_Rounds_nought :=
  rss_one (rs_ret (re_blt (b_tuple T.n_tuple) (rar_cons (re_rd (re_lc [("number", 1)] rfl sc_Rounds_nought.nd (re_iter (re_fld T.f_rounds (re_var 0))) (blkOk_by (N := N_Rounds_nought) (sc := defScope s_Rounds_nought) (by decide +kernel)) (fun _ _ _ _ _ _ => by exact (gN 1 sc_Rounds_nought.nd)) (fun _ _ _ _ _ => by exact (rts_nil)) (fun _ _ _ _ _ => by exact (re_int)))) (rar_nil))))
theorem b_Tower_init (T : Txt P w K mg base) (M_break_of_three : FnM P w K mg base 6 "break_of_three" .S d_break_of_three) (MT_carry : ∀ c g, mt_carry c = some g → MtM P w K mg base 3 "carry" c .S g) (MT_nought : ∀ c g, mt_nought c = some g → MtM P w K mg base 1 "nought" c .S g) {f : Addr} (cdv : Value) (A : Around) (outer : List PySem.Env) (s : Shared) (H : Hp) (E : XK) (x : Addr) (hr : Room 6 (A.deeper (envOfC "Tower.__init__" (defScope s_Tower_init) s.heap.objs.size f cdv))) :
    RSs (cxOf (L2.CX P w) P w K mg base N_Tower_init "Tower.__init__" (defScope s_Tower_init) f cdv A outer s H E) (WI x E) .S (defBody s_Tower_init) e_Tower_init :=
  rss_cons (rs_set 2 sc_Tower_init.nd (re_call M_break_of_three (hr.mono (by decide)) (takes_of rfl rfl rfl rfl) (ra_cons (re_var 1) (ra_nil))))
    (rss_cons (rs_if (rt_cp (c_notN) (re_rd (re_var 2)) (re_rd (re_non)))
    (rss_one (rs_raise T.e_NoTower rfl (takes_of rfl rfl rfl rfl) (hr.mono (by decide)) (ra_cons (re_var 2) (ra_nil))))
    (rss_nil))
    (rss_cons (rs_fldS 0 1 T.cl_Tower_table (re_var 1))
    (rss_one (rs_fldS 0 1 T.cl_Tower_ground (re_meth MT_carry (hr.mono (by decide)) (takes_of rfl rfl rfl rfl) (re_var 1) (ra_cons (re_meth0 MT_nought (hr.mono (by decide)) (takes_of rfl rfl rfl rfl) (re_fld T.f_upper (re_var 1))) (ra_cons (re_meth0 MT_nought (hr.mono (by decide)) (takes_of rfl rfl rfl rfl) (re_fld T.f_upper (re_var 1))) (ra_nil))))))))
theorem b_Group_size (T : Txt P w K mg base) (MT_members : ∀ c g, mt_members c = some g → MtM P w K mg base 1 "members" c .S g) {f : Addr} (cdv : Value) (A : Around) (outer : List PySem.Env) (s : Shared) (H : Hp) (E : XK) (hr : Room 1 (A.deeper (envOfC "Group.size" (defScope s_Group_size) s.heap.objs.size f cdv))) :
    RSs (cxOf (L2.CX P w) P w K mg base N_Group_size "Group.size" (defScope s_Group_size) f cdv A outer s H E) (WD E) .S (defBody s_Group_size) e_Group_size :=
  rss_one (rs_ret (re_blt (b_len T.n_len) (rar_cons (re_rd (re_meth0 MT_members (hr.mono (by decide)) (takes_of rfl rfl rfl rfl) (re_var 0))) (rar_nil))))
theorem b_Group_size_1 (T : Txt P w K mg base) (MT_members_T : ∀ c g, mt_members_T c = some g → MtM P w K mg base 2 "members" c .S g) {f : Addr} (cdv : Value) (A : Around) (outer : List PySem.Env) (s : Shared) (H : Hp) (E : XK) (hr : Room 2 (A.deeper (envOfC "Group.size" (defScope s_Group_size) s.heap.objs.size f cdv))) :
    RSs (cxOf (L2.CX P w) P w K mg base N_Group_size "Group.size" (defScope s_Group_size) f cdv A outer s H E) (WD E) .S (defBody s_Group_size) e_Group_size_1 :=
  rss_one (rs_ret (re_blt (b_len T.n_len) (rar_cons (re_rd (re_meth0 MT_members_T (hr.mono (by decide)) (takes_of rfl rfl rfl rfl) (re_var 0))) (rar_nil))))
theorem b_Rounds_is_even (T : Txt P w K mg base) {f : Addr} (cdv : Value) (A : Around) (outer : List PySem.Env) (s : Shared) (H : Hp) (E : XK) (hr : Room 0 (A.deeper (envOfC "Rounds.is_even" (defScope s_Rounds_is_even) s.heap.objs.size f cdv))) :
    RSs (cxOf (L2.CX P w) P w K mg base N_Rounds_is_even "Rounds.is_even" (defScope s_Rounds_is_even) f cdv A outer s H E) (WD E) .S (defBody s_Rounds_is_even) e_Rounds_is_even :=
  rss_one (rs_ret (re_bl))
theorem b_break_of_two (T : Txt P w K mg base) (MT_members : ∀ c g, mt_members c = some g → MtM P w K mg base 1 "members" c .S g) (MT_carry : ∀ c g, mt_carry c = some g → MtM P w K mg base 3 "carry" c .S g) {f : Addr} (cdv : Value) (A : Around) (outer : List PySem.Env) (s : Shared) (H : Hp) (E : XK) (hr : Room 3 (A.deeper (envOfC "break_of_two" (defScope s_break_of_two) s.heap.objs.size f cdv))) :
    RSs (cxOf (L2.CX P w) P w K mg base N_break_of_two "break_of_two" (defScope s_break_of_two) f cdv A outer s H E) (WD E) .S (defBody s_break_of_two) e_break_of_two :=
  rss_cons (rs_set 1 sc_break_of_two.nd (re_meth0 MT_members (hr.mono (by decide)) (takes_of rfl rfl rfl rfl) (re_fld T.f_upper (re_var 0))))
    (rss_cons (rs_for (passes_of rfl) rfl (by exact (re_iter (re_var 1))) (by exact (gN 2 sc_break_of_two.nd))
    (by exact (rss_one (rs_for (passes_of rfl) rfl (by exact (re_iter (re_var 1))) (by exact (gN 3 sc_break_of_two.nd))
    (by exact (rss_one (rs_if (rt_cp (c_ne hr) (re_rd (re_meth MT_carry (hr.mono (by decide)) (takes_of rfl rfl rfl rfl) (re_var 0) (ra_cons (re_var 2) (ra_cons (re_var 3) (ra_nil))))) (re_rd (re_meth MT_carry (hr.mono (by decide)) (takes_of rfl rfl rfl rfl) (re_var 0) (ra_cons (re_var 3) (ra_cons (re_var 2) (ra_nil))))))
    (rss_one (rs_ret (re_tup (ra_cons (re_var 2) (ra_cons (re_var 3) (ra_nil))))))
    (rss_nil))))))))
    (rss_one (rs_ret (re_non))))
theorem b_Tower_is_even (T : Txt P w K mg base) (M_break_of_two : FnM P w K mg base 4 "break_of_two" .S d_break_of_two) {f : Addr} (cdv : Value) (A : Around) (outer : List PySem.Env) (s : Shared) (H : Hp) (E : XK) (hr : Room 4 (A.deeper (envOfC "Tower.is_even" (defScope s_Tower_is_even) s.heap.objs.size f cdv))) :
    RSs (cxOf (L2.CX P w) P w K mg base N_Tower_is_even "Tower.is_even" (defScope s_Tower_is_even) f cdv A outer s H E) (WD E) .S (defBody s_Tower_is_even) e_Tower_is_even :=
  rss_one (rs_ret (re_cp (c_isN) (re_rd (re_call M_break_of_two (hr.mono (by decide)) (takes_of rfl rfl rfl rfl) (ra_cons (re_fld T.f_table (re_var 0)) (ra_nil)))) (re_rd (re_non))))
theorem b_look_at_groups (T : Txt P w K mg base) (MT_size_T : ∀ c g, mt_size_T c = some g → MtM P w K mg base 3 "size" c .S g) (MT_is_even_T : ∀ c g, mt_is_even_T c = some g → MtM P w K mg base 5 "is_even" c .S g) {f : Addr} (cdv : Value) (A : Around) (outer : List PySem.Env) (s : Shared) (H : Hp) (E : XK) (hr : Room 5 (A.deeper (envOfC "look_at_groups" (defScope s_look_at_groups) s.heap.objs.size f cdv))) :
    RSs (cxOf (L2.CX P w) P w K mg base N_look_at_groups "look_at_groups" (defScope s_look_at_groups) f cdv A outer s H E) (WD E) .S (defBody s_look_at_groups) e_look_at_groups :=
  rss_cons (rs_if (rt_pw (rw_or (rt_cp (c_gt) (re_rd (re_meth0 MT_size_T (hr.mono (by decide)) (takes_of rfl rfl rfl rfl) (re_var 0))) (re_rd (re_gI T.g_MOST_LOWER))) (rw_or1 (rt_not (rt_val (re_meth0 MT_is_even_T (hr.mono (by decide)) (takes_of rfl rfl rfl rfl) (re_var 0)))))))
    (rss_one (rs_raise0 T.e_NoLower rfl (takes_of rfl rfl rfl rfl)))
    (rss_nil))
    (rss_one (rs_if (rt_pw (rw_or (rt_not (rt_val (re_blt (b_is T.isM T.n_isinstance) (rar_cons (re_rd (re_var 1)) (rar_cons (re_rd (re_cls (c := 0) T.c_Rounds)) (rar_nil)))))) (rw_or1 (rt_cp (c_gt) (re_rd (re_meth0 MT_size_T (hr.mono (by decide)) (takes_of rfl rfl rfl rfl) (re_var 1))) (re_rd (re_gI T.g_MOST_UPPER))))))
    (rss_one (rs_raise0 T.e_NoUpper rfl (takes_of rfl rfl rfl rfl)))
    (rss_nil)))
theorem b_Table_init (T : Txt P w K mg base) (M_look_at_groups : FnM P w K mg base 6 "look_at_groups" .S d_look_at_groups) (MT_members_T : ∀ c g, mt_members_T c = some g → MtM P w K mg base 2 "members" c .S g) (MT_has_T : ∀ c g, mt_has_T c = some g → MtM P w K mg base 3 "has" c .S g) {f : Addr} (cdv : Value) (A : Around) (outer : List PySem.Env) (s : Shared) (H : Hp) (E : XK) (x : Addr) (hr : Room 6 (A.deeper (envOfC "Table.__init__" (defScope s_Table_init) s.heap.objs.size f cdv))) :
    RSs (cxOf (L2.CX P w) P w K mg base N_Table_init "Table.__init__" (defScope s_Table_init) f cdv A outer s H E) (WI x E) .S (defBody s_Table_init) e_Table_init :=
  rss_cons (rs_expr (re_call M_look_at_groups (hr.mono (by decide)) (takes_of rfl rfl rfl rfl) (ra_cons (re_var 1) (ra_cons (re_var 2) (ra_nil)))))
    (rss_cons (rs_fldS 0 2 T.cl_Table_lower (re_var 1))
    (rss_cons (rs_fldS 0 2 T.cl_Table_upper (re_var 2))
    (rss_cons (rs_fldO 0 2 T.cl_Table_kept (re_dic0))
    (rss_cons (rs_set 4 sc_Table_init.nd (re_meth0 MT_members_T (hr.mono (by decide)) (takes_of rfl rfl rfl rfl) (re_var 2)))
    (rss_one (rs_for (passes_of rfl) rfl (by exact (re_iter (re_var 4))) (by exact (gN 5 sc_Table_init.nd))
    (by exact (rss_one (rs_for (passes_of rfl) rfl (by exact (re_iter (re_var 4))) (by exact (gN 6 sc_Table_init.nd))
    (by exact (rss_cons (rs_if (rt_pw (rw_or (rt_cp (c_notIn hr) (re_rd (re_tup (ra_cons (re_var 5) (ra_cons (re_var 6) (ra_nil))))) (re_rd (re_var 3))) (rw_or1 (rt_not (rt_val (re_meth MT_has_T (hr.mono (by decide)) (takes_of rfl rfl rfl rfl) (re_var 1) (ra_cons (re_ix hr (re_rd (re_var 3)) (re_rd (re_tup (ra_cons (re_var 5) (ra_cons (re_var 6) (ra_nil)))))) (ra_nil))))))))
    (rss_one (rs_raise T.e_NoCarry rfl (takes_of rfl rfl rfl rfl) (hr.mono (by decide)) (ra_cons (re_var 5) (ra_cons (re_var 6) (ra_nil)))))
    (rss_nil))
    (rss_one (rs_fldItem 0 2 2 T.cl_Table_kept hr (re_ix hr (re_rd (re_var 3)) (re_rd (re_tup (ra_cons (re_var 5) (ra_cons (re_var 6) (ra_nil)))))) (re_rd (re_tup (ra_cons (re_var 5) (ra_cons (re_var 6) (ra_nil))))))))))))))))))
theorem b_are_rounds (T : Txt P w K mg base) (M_is_whole : FnM P w K mg base 1 "is_whole" .S d_is_whole) {f : Addr} (cdv : Value) (A : Around) (outer : List PySem.Env) (s : Shared) (H : Hp) (E : XK) (hr : Room 1 (A.deeper (envOfC "are_rounds" (defScope s_are_rounds) s.heap.objs.size f cdv))) :
    RSs (cxOf (L2.CX P w) P w K mg base N_are_rounds "are_rounds" (defScope s_are_rounds) f cdv A outer s H E) (WD E) .S (defBody s_are_rounds) e_are_rounds :=
  rss_cons (rs_if (rt_pw (rw_or (rt_not (rt_val (re_blt (b_is T.isM T.n_isinstance) (rar_cons (re_rd (re_var 0)) (rar_cons (re_rd (re_tup (ra_cons (re_ty T.n_list boot_ty_list) (ra_cons (re_ty T.n_tuple boot_ty_tuple) (ra_nil))))) (rar_nil)))))) (rw_or1 (rt_cp (c_gt) (re_rd (re_blt (b_len T.n_len) (rar_cons (re_rd (re_var 0)) (rar_nil)))) (re_rd (re_gI T.g_MOST_ROUNDS))))))
    (rss_one (rs_ret (re_bl)))
    (rss_nil))
    (rss_cons (rs_set 1 sc_are_rounds.nd (re_int))
    (rss_cons (rs_for (passes_of rfl) rfl (by exact (re_iter (re_var 0))) (by exact (gN 2 sc_are_rounds.nd))
    (by exact (rss_cons (rs_if (rt_pw (rw_or (rt_not (rt_val (re_call M_is_whole (hr.mono (by decide)) (takes_of rfl rfl rfl rfl) (ra_cons (re_var 2) (ra_nil))))) (rw_or (rt_cp (c_lt) (re_rd (re_var 2)) (re_rd (re_int))) (rw_or1 (rt_cp (c_gt) (re_rd (re_var 2)) (re_rd (re_gI T.g_MOST_ELEMENTS)))))))
    (rss_one (rs_ret (re_bl)))
    (rss_nil))
    (rss_one (rs_set 1 sc_are_rounds.nd (re_mul (re_rd (re_var 1)) (re_rd (re_var 2))))))))
    (rss_one (rs_ret (re_cp (c_le) (re_rd (re_var 1)) (re_rd (re_gI T.g_MOST_ELEMENTS)))))))
theorem b_Rounds_init (T : Txt P w K mg base) (M_are_rounds : FnM P w K mg base 2 "are_rounds" .S d_are_rounds) {f : Addr} (cdv : Value) (A : Around) (outer : List PySem.Env) (s : Shared) (H : Hp) (E : XK) (x : Addr) (hr : Room 2 (A.deeper (envOfC "Rounds.__init__" (defScope s_Rounds_init) s.heap.objs.size f cdv))) :
    RSs (cxOf (L2.CX P w) P w K mg base N_Rounds_init "Rounds.__init__" (defScope s_Rounds_init) f cdv A outer s H E) (WI x E) .S (defBody s_Rounds_init) e_Rounds_init :=
  rss_cons (rs_if (rt_not (rt_val (re_call M_are_rounds (hr.mono (by decide)) (takes_of rfl rfl rfl rfl) (ra_cons (re_var 1) (ra_nil)))))
    (rss_one (rs_raise0 T.e_NoRounds rfl (takes_of rfl rfl rfl rfl)))
    (rss_nil))
    (rss_one (rs_fldS 0 0 T.cl_Rounds_rounds (re_blt (b_tuple T.n_tuple) (rar_cons (re_rd (re_var 1)) (rar_nil)))))
theorem b_q_whole (T : Txt P w K mg base) {f : Addr} (cdv : Value) (A : Around) (outer : List PySem.Env) (s : Shared) (H : Hp) (E : XK) (hr : Room 0 (A.deeper (envOfC "_law_whole" (defScope s_q_whole) s.heap.objs.size f cdv))) :
    RSs (cxOf (L2.CX P w) P w K mg base N_q_whole "_law_whole" (defScope s_q_whole) f cdv A outer s H E) (WD E) .S (defBody s_q_whole) e_q_whole :=
  rss_one (rs_ret (re_and (re_blt (b_is T.isM T.n_isinstance) (rar_cons (re_rd (re_var 0)) (rar_cons (re_rd (re_ty T.n_int boot_ty_int)) (rar_nil)))) (re_one (re_not (re_blt (b_is T.isM T.n_isinstance) (rar_cons (re_rd (re_var 0)) (rar_cons (re_rd (re_ty T.n_bool boot_ty_bool)) (rar_nil))))))))
theorem b_q_has (T : Txt P w K mg base) (M_q_whole : FnM P w K mg base 1 "_law_whole" .S d_q_whole) {f : Addr} (cdv : Value) (A : Around) (outer : List PySem.Env) (s : Shared) (H : Hp) (E : XK) (hr : Room 1 (A.deeper (envOfC "_law_has" (defScope s_q_has) s.heap.objs.size f cdv))) :
    RSs (cxOf (L2.CX P w) P w K mg base N_q_has "_law_has" (defScope s_q_has) f cdv A outer s H E) (WD E) .S (defBody s_q_has) e_q_has :=
  rss_cons (rs_if (rt_pw (rw_or (rt_not (rt_val (re_blt (b_is T.isM T.n_isinstance) (rar_cons (re_rd (re_var 1)) (rar_cons (re_rd (re_ty T.n_tuple boot_ty_tuple)) (rar_nil)))))) (rw_or1 (rt_cp (c_ne hr) (re_rd (re_blt (b_len T.n_len) (rar_cons (re_rd (re_var 1)) (rar_nil)))) (re_rd (re_int))))))
    (rss_one (rs_ret (re_bl)))
    (rss_nil))
    (rss_cons (rs_for (passes_of rfl) rfl (by exact (ri_zip2 T.n_zip (ra_cons (re_slice (re_rd (re_var 0)) (rp_none) (rp_some (re_rd (re_int)))) (ra_cons (re_var 1) (ra_nil))))) (by exact (gT 2 rfl (gsc (gN 2 sc_q_has.nd) (gsc (gN 3 sc_q_has.nd) (gs0)))))
    (by exact (rss_cons (rs_if (rt_pw (rw_or (rt_not (rt_val (re_blt (b_is T.isM T.n_isinstance) (rar_cons (re_rd (re_var 3)) (rar_cons (re_rd (re_ty T.n_tuple boot_ty_tuple)) (rar_nil)))))) (rw_or1 (rt_cp (c_ne hr) (re_rd (re_blt (b_len T.n_len) (rar_cons (re_rd (re_var 3)) (rar_nil)))) (re_rd (re_blt (b_len T.n_len) (rar_cons (re_rd (re_var 2)) (rar_nil))))))))
    (rss_one (rs_ret (re_bl)))
    (rss_nil))
    (rss_one (rs_if (rt_not (rt_val (re_blt (b_allT rfl T.n_all) (rar_cons (re_rd (re_lc [("_law_number", 4), ("_law_most", 5)] rfl sc_q_has.nd (ri_zip2 T.n_zip (ra_cons (re_var 3) (ra_cons (re_var 2) (ra_nil)))) (blkOk_by (N := N_q_has) (sc := defScope s_q_has) (by decide +kernel)) (fun _ _ _ _ _ _ => by exact (gT 2 rfl (gsc (gN 4 sc_q_has.nd) (gsc (gN 5 sc_q_has.nd) (gs0))))) (fun _ _ _ _ _ => by exact (rts_nil)) (fun _ _ _ _ _ => by exact (re_and (re_call M_q_whole (hr.mono (by decide)) (takes0) (ra_cons (re_var 4) (ra_nil))) (re_one (re_chain (c_le) (c_lt) (re_rd (re_int)) (re_rd (re_var 4)) (re_rd (re_var 5)))))))) (rar_nil)))))
    (rss_one (rs_ret (re_bl)))
    (rss_nil))))))
    (rss_one (rs_ret (re_bl))))
theorem b_q_two (T : Txt P w K mg base) (M_q_members : FnM P w K mg base 1 "_law_members" .S d_q_members) {f : Addr} (cdv : Value) (A : Around) (outer : List PySem.Env) (s : Shared) (H : Hp) (E : XK) (hr : Room 1 (A.deeper (envOfC "_law_two" (defScope s_q_two) s.heap.objs.size f cdv))) :
    RSs (cxOf (L2.CX P w) P w K mg base N_q_two "_law_two" (defScope s_q_two) f cdv A outer s H E) (WD E) .S (defBody s_q_two) e_q_two :=
  rss_cons (rs_set 2 sc_q_two.nd (re_call M_q_members (hr.mono (by decide)) (takes_of rfl rfl rfl rfl) (ra_cons (re_var 0) (ra_nil))))
    (rss_cons (rs_for (passes_of rfl) rfl (by exact (re_iter (re_var 2))) (by exact (gN 3 sc_q_two.nd))
    (by exact (rss_one (rs_for (passes_of rfl) rfl (by exact (re_iter (re_var 2))) (by exact (gN 4 sc_q_two.nd))
    (by exact (rss_one (rs_if (rt_cp (c_ne hr) (re_rd (re_ix hr (re_rd (re_var 1)) (re_rd (re_tup (ra_cons (re_var 3) (ra_cons (re_var 4) (ra_nil))))))) (re_rd (re_ix hr (re_rd (re_var 1)) (re_rd (re_tup (ra_cons (re_var 4) (ra_cons (re_var 3) (ra_nil))))))))
    (rss_one (rs_ret (re_tup (ra_cons (re_var 3) (ra_cons (re_var 4) (ra_nil))))))
    (rss_nil))))))))
    (rss_one (rs_ret (re_non))))
theorem b_q_asked (T : Txt P w K mg base) (MK_Table : MkM P w K mg base 7 2 d_Table_init) (MK_Rounds : MkM P w K mg base 3 0 d_Rounds_init) {f : Addr} (cdv : Value) (A : Around) (outer : List PySem.Env) (s : Shared) (H : Hp) (E : XK) (hr : Room 8 (A.deeper (envOfC "_law_asked" (defScope s_q_asked) s.heap.objs.size f cdv))) :
    RSs (cxOf (L2.CX P w) P w K mg base N_q_asked "_law_asked" (defScope s_q_asked) f cdv A outer s H E) (WD E) .S (defBody s_q_asked) e_q_asked :=
  rss_cons (rs_set 3 sc_q_asked.nd (re_non))
    (rss_cons (rs_try T.ctM sc_q_asked.nd (takes_of rfl rfl rfl rfl) (fun _ _ _ tk1 po1 => by exact (rss_one (rs_set 3 sc_q_asked.nd (re_make MK_Table (hr.mono (by decide)) (tk1) (ra_cons (re_var 0) (ra_cons (re_make MK_Rounds (hr.mono (by decide)) (tk1) (ra_cons (re_var 1) (ra_nil))) (ra_cons (re_var 2) (ra_nil)))))))) (by exact (ClsD.one (names_own (u := 13) T.c_NoLower) rfl (fun _ _ => by exact (rss_one (rs_set 3 sc_q_asked.nd (re_str)))) (by exact (ClsD.as (i := 4) (names_own (u := 23) T.c_NoCarry) rfl rfl rfl (by first | exact fun _ _ h => h | exact jset (by decide)) (fun _ _ => by exact (rss_one (rs_set 3 sc_q_asked.nd (re_tup (ra_cons (re_exf T.x_x (re_var 4)) (ra_cons (re_exf T.x_y (re_var 4)) (ra_nil))))))) (by exact (ClsD.nil)))))))
    (rss_one (rs_ret (re_var 3))))
theorem b_Table_carries (T : Txt P w K mg base) {f : Addr} (cdv : Value) (A : Around) (outer : List PySem.Env) (s : Shared) (H : Hp) (E : XK) (hr : Room 0 (A.deeper (envOfC "Table.carries" (defScope s_Table_carries) s.heap.objs.size f cdv))) :
    RSs (cxOf (L2.CX P w) P w K mg base N_Table_carries "Table.carries" (defScope s_Table_carries) f cdv A outer s H E) (WD E) .S (defBody s_Table_carries) e_Table_carries :=
  rss_one (rs_ret (re_share (re_blt (b_dict hr T.n_dict) (rar_cons (re_rd (re_fld T.f_kept (re_var 0))) (rar_nil)))))
theorem b_q_put (T : Txt P w K mg base) (M_q_added : FnM P w K mg base 1 "_law_added" .S d_q_added) {f : Addr} (cdv : Value) (A : Around) (outer : List PySem.Env) (s : Shared) (H : Hp) (E : XK) (hr : Room 1 (A.deeper (envOfC "_law_put" (defScope s_q_put) s.heap.objs.size f cdv))) :
    RSs (cxOf (L2.CX P w) P w K mg base N_q_put "_law_put" (defScope s_q_put) f cdv A outer s H E) (WD E) .S (defBody s_q_put) e_q_put :=
  rss_cons (rs_asg (re_var 0) (gT 3 rfl (gsc (gN 3 sc_q_put.nd) (gsc (gN 4 sc_q_put.nd) (gsc (gN 5 sc_q_put.nd) (gs0))))))
    (rss_cons (rs_set 6 sc_q_put.nd (re_call M_q_added (hr.mono (by decide)) (takes_of rfl rfl rfl rfl) (ra_cons (re_var 3) (ra_cons (re_call M_q_added (hr.mono (by decide)) (takes_of rfl rfl rfl rfl) (ra_cons (re_var 3) (ra_cons (re_ix hr (re_rd (re_var 1)) (re_rd (re_int))) (ra_cons (re_ix hr (re_rd (re_var 2)) (re_rd (re_int))) (ra_nil))))) (ra_cons (re_ix hr (re_rd (re_var 5)) (re_rd (re_tup (ra_cons (re_ix hr (re_rd (re_var 1)) (re_rd (re_int))) (ra_cons (re_ix hr (re_rd (re_var 2)) (re_rd (re_int))) (ra_nil)))))) (ra_nil))))))
    (rss_one (rs_ret (re_tup (ra_cons (re_var 6) (ra_cons (re_call M_q_added (hr.mono (by decide)) (takes_of rfl rfl rfl rfl) (ra_cons (re_var 4) (ra_cons (re_ix hr (re_rd (re_var 1)) (re_rd (re_int))) (ra_cons (re_ix hr (re_rd (re_var 2)) (re_rd (re_int))) (ra_nil))))) (ra_nil)))))))
theorem b_q_broken (T : Txt P w K mg base) (M_q_members : FnM P w K mg base 1 "_law_members" .S d_q_members) (M_q_put : FnM P w K mg base 2 "_law_put" .S d_q_put) (M_q_added : FnM P w K mg base 1 "_law_added" .S d_q_added) {f : Addr} (cdv : Value) (A : Around) (outer : List PySem.Env) (s : Shared) (H : Hp) (E : XK) (hr : Room 2 (A.deeper (envOfC "_law_broken" (defScope s_q_broken) s.heap.objs.size f cdv))) :
    RSs (cxOf (L2.CX P w) P w K mg base N_q_broken "_law_broken" (defScope s_q_broken) f cdv A outer s H E) (WD E) .S (defBody s_q_broken) e_q_broken :=
  rss_cons (rs_set 3 sc_q_broken.nd (re_call M_q_members (hr.mono (by decide)) (takes_of rfl rfl rfl rfl) (ra_cons (re_var 1) (ra_nil))))
    (rss_cons (rs_for (passes_of rfl) rfl (by exact (re_iter (re_var 3))) (by exact (gN 4 sc_q_broken.nd))
    (by exact (rss_one (rs_for (passes_of rfl) rfl (by exact (re_iter (re_var 3))) (by exact (gN 5 sc_q_broken.nd))
    (by exact (rss_one (rs_for (passes_of rfl) rfl (by exact (re_iter (re_var 3))) (by exact (gN 6 sc_q_broken.nd))
    (by exact (rss_cons (rs_set 7 sc_q_broken.nd (re_call M_q_put (hr.mono (by decide)) (takes_of rfl rfl rfl rfl) (ra_cons (re_var 0) (ra_cons (re_ix hr (re_rd (re_var 2)) (re_rd (re_tup (ra_cons (re_var 4) (ra_cons (re_var 5) (ra_nil)))))) (ra_cons (re_ix hr (re_rd (re_var 2)) (re_rd (re_tup (ra_cons (re_call M_q_added (hr.mono (by decide)) (takes_of rfl rfl rfl rfl) (ra_cons (re_var 1) (ra_cons (re_var 4) (ra_cons (re_var 5) (ra_nil))))) (ra_cons (re_var 6) (ra_nil)))))) (ra_nil))))))
    (rss_one (rs_if (rt_cp (c_ne hr) (re_rd (re_var 7)) (re_rd (re_call M_q_put (hr.mono (by decide)) (takes_of rfl rfl rfl rfl) (ra_cons (re_var 0) (ra_cons (re_ix hr (re_rd (re_var 2)) (re_rd (re_tup (ra_cons (re_var 5) (ra_cons (re_var 6) (ra_nil)))))) (ra_cons (re_ix hr (re_rd (re_var 2)) (re_rd (re_tup (ra_cons (re_var 4) (ra_cons (re_call M_q_added (hr.mono (by decide)) (takes_of rfl rfl rfl rfl) (ra_cons (re_var 1) (ra_cons (re_var 5) (ra_cons (re_var 6) (ra_nil))))) (ra_nil)))))) (ra_nil)))))))
    (rss_one (rs_ret (re_tup (ra_cons (re_var 4) (ra_cons (re_var 5) (ra_cons (re_var 6) (ra_nil)))))))
    (rss_nil))))))))))))
    (rss_one (rs_ret (re_non))))
theorem b_Tower_members_2 (T : Txt P w K mg base) (MT_members_T : ∀ c g, mt_members_T c = some g → MtM P w K mg base 2 "members" c .S g) {f : Addr} (cdv : Value) (A : Around) (outer : List PySem.Env) (s : Shared) (H : Hp) (E : XK) (hr : Room 2 (A.deeper (envOfC "Tower.members" (defScope s_Tower_members) s.heap.objs.size f cdv))) :
    RSs (cxOf (L2.CX P w) P w K mg base N_Tower_members "Tower.members" (defScope s_Tower_members) f cdv A outer s H E) (WD E) .S (defBody s_Tower_members) e_Tower_members_2 :=
  rss_cons (rs_setO 1 sc_Tower_members.nd (re_lst (ra_nil)))
    (rss_cons (rs_for (passes_of rfl) rfl (by exact (re_iter (re_meth0 MT_members_T (hr.mono (by decide)) (takes_of rfl rfl rfl rfl) (re_fld T.f_lower (re_fld T.f_table (re_var 0)))))) (by exact (gN 2 sc_Tower_members.nd))
    (by exact (rss_one (rs_extend 1 (re_share (re_lc [("x", 3)] rfl sc_Tower_members.nd (re_iter (re_meth0 MT_members_T (hr.mono (by decide)) (takes_of rfl rfl rfl rfl) (re_fld T.f_upper (re_fld T.f_table (re_var 0))))) (blkOk_by (N := N_Tower_members) (sc := defScope s_Tower_members) (by decide +kernel)) (fun _ _ _ _ _ _ => by exact (gN 3 sc_Tower_members.nd)) (fun _ _ _ _ _ => by exact (rts_nil)) (fun _ _ _ _ _ => by exact (re_tup (ra_cons (re_var 2) (ra_cons (re_var 3) (ra_nil)))))))))))
    (rss_one (rs_frz 1 (rs_ret (re_var 1)))))
theorem b_Group_size_1_2 (T : Txt P w K mg base) (MT_members_T_T : ∀ c g, mt_members_T_T c = some g → MtM P w K mg base 3 "members" c .S g) {f : Addr} (cdv : Value) (A : Around) (outer : List PySem.Env) (s : Shared) (H : Hp) (E : XK) (hr : Room 3 (A.deeper (envOfC "Group.size" (defScope s_Group_size) s.heap.objs.size f cdv))) :
    RSs (cxOf (L2.CX P w) P w K mg base N_Group_size "Group.size" (defScope s_Group_size) f cdv A outer s H E) (WD E) .S (defBody s_Group_size) e_Group_size_1_2 :=
  rss_one (rs_ret (re_blt (b_len T.n_len) (rar_cons (re_rd (re_meth0 MT_members_T_T (hr.mono (by decide)) (takes_of rfl rfl rfl rfl) (re_var 0))) (rar_nil))))
theorem b_q_tower_right (T : Txt P w K mg base) (MK_Tower : MkM P w K mg base 7 1 d_Tower_init) (MT_size_T_T : ∀ c g, mt_size_T_T c = some g → MtM P w K mg base 4 "size" c .S g) (MT_members_T_T : ∀ c g, mt_members_T_T c = some g → MtM P w K mg base 3 "members" c .S g) {f : Addr} (cdv : Value) (A : Around) (outer : List PySem.Env) (s : Shared) (H : Hp) (E : XK) (hr : Room 8 (A.deeper (envOfC "_law_tower_right" (defScope s_q_tower_right) s.heap.objs.size f cdv))) :
    RSs (cxOf (L2.CX P w) P w K mg base N_q_tower_right "_law_tower_right" (defScope s_q_tower_right) f cdv A outer s H E) (WD E) .S (defBody s_q_tower_right) e_q_tower_right :=
  rss_cons (rs_set 3 sc_q_tower_right.nd (re_non))
    (rss_cons (rs_set 4 sc_q_tower_right.nd (re_non))
    (rss_cons (rs_try T.ctM sc_q_tower_right.nd (takes_of rfl rfl rfl rfl) (fun _ _ _ tk1 po1 => by exact (rss_one (rs_set 4 sc_q_tower_right.nd (re_make MK_Tower (hr.mono (by decide)) (tk1) (ra_cons (re_var 0) (ra_nil)))))) (by exact (ClsD.as (i := 5) (names_own (u := 24) T.c_NoTower) rfl rfl rfl (by first | exact fun _ _ h => h | exact jset (by decide)) (fun _ _ => by exact (rss_one (rs_set 3 sc_q_tower_right.nd (re_exf T.x_three (re_var 5))))) (by exact (ClsD.nil)))))
    (rss_cons (rs_if (rt_cp (c_notN) (re_rd (re_var 1)) (re_rd (re_non)))
    (rss_one (rs_ret (re_and (re_cp (c_eq hr) (re_rd (re_var 3)) (re_rd (re_var 1))) (re_one (re_cp (c_isN) (re_rd (re_var 4)) (re_rd (re_non)))))))
    (rss_nil))
    (rss_one (rs_ret (re_and (re_cp (c_isN) (re_rd (re_var 3)) (re_rd (re_non))) (re_and (re_cp (c_eq hr) (re_rd (re_meth0 MT_size_T_T (hr.mono (by decide)) (takes_of rfl rfl rfl rfl) (re_var 4))) (re_rd (re_var 2))) (re_one (re_cp (c_eq hr) (re_rd (re_blt (b_len T.n_len) (rar_cons (re_rd (re_meth0 MT_members_T_T (hr.mono (by decide)) (takes_of rfl rfl rfl rfl) (re_var 4))) (rar_nil)))) (re_rd (re_var 2)))))))))))
theorem b_law (T : Txt P w K mg base) (M_q_ground : FnM P w K mg base 3 "_law_ground" .S d_q_ground) (MK_Tower : MkM P w K mg base 7 1 d_Tower_init) (MK_Table : MkM P w K mg base 7 2 d_Table_init) (MK_Rounds : MkM P w K mg base 3 0 d_Rounds_init) (M_q_rounds : FnM P w K mg base 1 "_law_rounds" .S d_q_rounds) (M_q_cell : FnM P w K mg base 1 "_law_cell" .S d_q_cell) (M_q_members : FnM P w K mg base 1 "_law_members" .S d_q_members) (M_q_has : FnM P w K mg base 2 "_law_has" .S d_q_has) (M_q_two : FnM P w K mg base 2 "_law_two" .S d_q_two) (M_q_asked : FnM P w K mg base 9 "_law_asked" .S d_q_asked) (MT_carries : ∀ c g, mt_carries c = some g → MtM P w K mg base 1 "carries" c .S g) (M_break_of_two : FnM P w K mg base 4 "break_of_two" .S d_break_of_two) (M_q_broken : FnM P w K mg base 3 "_law_broken" .S d_q_broken) (M_break_of_three : FnM P w K mg base 6 "break_of_three" .S d_break_of_three) (M_q_tower_right : FnM P w K mg base 9 "_law_tower_right" .S d_q_tower_right) {f : Addr} (cdv : Value) (A : Around) (outer : List PySem.Env) (s : Shared) (H : Hp) (E : XK) (hr : Room 9 (A.deeper (envOfC "law" (defScope s_law) s.heap.objs.size f cdv))) :
    RSs (cxOf (L2.CX P w) P w K mg base N_law "law" (defScope s_law) f cdv A outer s H E) (WD E) .S (defBody s_law) e_law :=
  rss_cons (rs_set 1 sc_law.nd (re_call M_q_ground (hr.mono (by decide)) (takes_of rfl rfl rfl rfl) (ra_cons (re_var 0) (ra_nil))))
    (rss_cons (rs_set 2 sc_law.nd (re_make MK_Tower (hr.mono (by decide)) (takes_of rfl rfl rfl rfl) (ra_cons (re_make MK_Table (hr.mono (by decide)) (takes_of rfl rfl rfl rfl) (ra_cons (re_make MK_Rounds (hr.mono (by decide)) (takes_of rfl rfl rfl rfl) (ra_cons (re_ix hr (re_rd (re_var 1)) (re_rd (re_int))) (ra_nil))) (ra_cons (re_make MK_Rounds (hr.mono (by decide)) (takes_of rfl rfl rfl rfl) (ra_cons (re_ix hr (re_rd (re_var 1)) (re_rd (re_int))) (ra_nil))) (ra_cons (re_ix hr (re_rd (re_var 1)) (re_rd (re_int))) (ra_nil))))) (ra_nil))))
    (rss_cons (rs_set 3 sc_law.nd (re_call M_q_rounds (hr.mono (by decide)) (takes_of rfl rfl rfl rfl) (ra_cons (re_call M_q_cell (hr.mono (by decide)) (takes_of rfl rfl rfl rfl) (ra_cons (re_var 0) (ra_cons (re_int) (ra_nil)))) (ra_cons (re_int) (ra_cons (re_int) (ra_nil))))))
    (rss_cons (rs_set 4 sc_law.nd (re_call M_q_members (hr.mono (by decide)) (takes_of rfl rfl rfl rfl) (ra_cons (re_var 3) (ra_nil))))
    (rss_cons (rs_setO 5 sc_law.nd (re_lst (ra_nil)))
    (rss_cons (rs_for (passes_of rfl) rfl (by exact (re_iter (re_call M_q_members (hr.mono (by decide)) (takes_of rfl rfl rfl rfl) (ra_cons (re_ix hr (re_rd (re_var 1)) (re_rd (re_int))) (ra_nil))))) (by exact (gN 6 sc_law.nd))
    (by exact (rss_one (rs_for (passes_of rfl) rfl (by exact (re_iter (re_call M_q_members (hr.mono (by decide)) (takes_of rfl rfl rfl rfl) (ra_cons (re_ix hr (re_rd (re_var 1)) (re_rd (re_int))) (ra_nil))))) (by exact (gN 7 sc_law.nd))
    (by exact (rss_one (rs_append 5 (re_tup (ra_cons (re_var 6) (ra_cons (re_var 7) (ra_nil)))))))))))
    (rss_cons (rs_setO 8 sc_law.nd (re_dic0))
    (rss_cons (rs_for (passes_of rfl) rfl (by exact (ri_enumS T.n_enumerate (ra_cons (re_var 4) (ra_nil)))) (by exact (gT 2 rfl (gsc (gN 9 sc_law.nd) (gsc (gN 7 sc_law.nd) (gs0)))))
    (by exact (rss_cons (rs_set 10 sc_law.nd (re_call M_q_cell (hr.mono (by decide)) (takes_of rfl rfl rfl rfl) (ra_cons (re_var 0) (ra_cons (re_add (re_rd (re_int)) (re_rd (re_mul (re_rd (re_var 9)) (re_rd (re_mod (re_rd (re_call M_q_cell (hr.mono (by decide)) (takes_of rfl rfl rfl rfl) (ra_cons (re_var 0) (ra_cons (re_int) (ra_nil))))) (re_rd (re_int))))))) (ra_nil)))))
    (rss_one (rs_for (passes_of rfl) rfl (by exact (re_iter (re_var 4))) (by exact (gN 11 sc_law.nd))
    (by exact (rss_cons (rs_setItem 8 hr (re_ix hr (re_varR 5) (re_rd (re_mod (re_rd (re_var 10)) (re_rd (re_blt (b_len T.n_len) (rar_cons (re_varR 5) (rar_nil))))))) (re_rd (re_tup (ra_cons (re_var 7) (ra_cons (re_var 11) (ra_nil))))))
    (rss_one (rs_set 10 sc_law.nd (re_div (re_rd (re_var 10)) (re_rd (re_ix hr (re_rd (re_lst (ra_cons (re_int) (ra_cons (re_blt (b_len T.n_len) (rar_cons (re_varR 5) (rar_nil))) (ra_nil))))) (re_rd (re_blt (b_int T.n_int) (rar_cons (re_rd (re_cp (c_gt) (re_rd (re_mod (re_rd (re_call M_q_cell (hr.mono (by decide)) (takes_of rfl rfl rfl rfl) (ra_cons (re_var 0) (ra_cons (re_int) (ra_nil))))) (re_rd (re_int)))) (re_rd (re_int)))) (rar_nil))))))))))))))))
    (rss_cons (rs_for (passes_of rfl) rfl (by exact (ri_range1 (b := true) T.n_range (rar_cons (re_rd (re_div (re_rd (re_mod (re_rd (re_call M_q_cell (hr.mono (by decide)) (takes_of rfl rfl rfl rfl) (ra_cons (re_var 0) (ra_cons (re_int) (ra_nil))))) (re_rd (re_int)))) (re_rd (re_int)))) (rar_nil)))) (by exact (gN 9 sc_law.nd))
    (by exact (rss_cons (rs_set 10 sc_law.nd (re_call M_q_cell (hr.mono (by decide)) (takes_of rfl rfl rfl rfl) (ra_cons (re_var 0) (ra_cons (re_add (re_rd (re_int)) (re_rd (re_var 9))) (ra_nil)))))
    (rss_cons (rs_set 12 sc_law.nd (re_ix hr (re_varR 5) (re_rd (re_mod (re_rd (re_div (re_rd (re_var 10)) (re_rd (re_int)))) (re_rd (re_blt (b_len T.n_len) (rar_cons (re_varR 5) (rar_nil))))))))
    (rss_cons (rs_set 13 sc_law.nd (re_share (re_lst (ra_cons (re_tup (ra_cons (re_add (re_rd (re_ix hr (re_rd (re_var 12)) (re_rd (re_int)))) (re_rd (re_tup (ra_cons (re_int) (ra_nil))))) (ra_cons (re_ix hr (re_rd (re_var 12)) (re_rd (re_int))) (ra_nil)))) (ra_cons (re_tup (ra_cons (re_ix hr (re_rd (re_var 12)) (re_rd (re_int))) (ra_cons (re_add (re_rd (re_tup (ra_cons (re_int) (ra_nil)))) (re_rd (re_ix hr (re_rd (re_var 12)) (re_rd (re_int))))) (ra_nil)))) (ra_cons (re_add (re_rd (re_var 12)) (re_rd (re_tup (ra_cons (re_int) (ra_nil))))) (ra_cons (re_share (re_blt (b_list T.n_list) (rar_cons (re_rd (re_var 12)) (rar_nil)))) (ra_cons (re_tup (ra_cons (re_mul (re_rd (re_tup (ra_cons (re_bl) (ra_nil)))) (re_rd (re_blt (b_len T.n_len) (rar_cons (re_rd (re_ix hr (re_rd (re_var 12)) (re_rd (re_int)))) (rar_nil))))) (ra_cons (re_ix hr (re_rd (re_var 12)) (re_rd (re_int))) (ra_nil)))) (ra_cons (re_non) (ra_cons (re_var 12) (ra_nil)))))))))))
    (rss_cons (rs_set 13 sc_law.nd (re_ix hr (re_rd (re_var 13)) (re_rd (re_mod (re_rd (re_var 10)) (re_rd (re_int))))))
    (rss_one (rs_setItem 8 hr (re_var 13) (re_rd (re_tup (ra_cons (re_ix hr (re_rd (re_var 4)) (re_rd (re_mod (re_rd (re_div (re_rd (re_var 10)) (re_rd (re_int)))) (re_rd (re_blt (b_len T.n_len) (rar_cons (re_rd (re_var 4)) (rar_nil))))))) (ra_cons (re_ix hr (re_rd (re_var 4)) (re_rd (re_mod (re_rd (re_div (re_rd (re_var 10)) (re_rd (re_int)))) (re_rd (re_blt (b_len T.n_len) (rar_cons (re_rd (re_var 4)) (rar_nil))))))) (ra_nil)))))))))))))
    (rss_cons (rs_set 14 sc_law.nd (re_non))
    (rss_cons (rs_for (passes_of rfl) rfl (by exact (re_iter (re_var 4))) (by exact (gN 7 sc_law.nd))
    (by exact (rss_one (rs_for (passes_of rfl) rfl (by exact (re_iter (re_var 4))) (by exact (gN 11 sc_law.nd))
    (by exact (rss_one (rs_if (rt_pw (rw_and (rt_cp (c_isN) (re_rd (re_var 14)) (re_rd (re_non))) (rw_and1 (rt_not (rt_val (re_call M_q_has (hr.mono (by decide)) (takes_of rfl rfl rfl rfl) (ra_cons (re_var 1) (ra_cons (re_ix hr (re_varR 8) (re_rd (re_tup (ra_cons (re_var 7) (ra_cons (re_var 11) (ra_nil)))))) (ra_nil)))))))))
    (rss_one (rs_set 14 sc_law.nd (re_tup (ra_cons (re_var 7) (ra_cons (re_var 11) (ra_nil))))))
    (rss_nil))))))))
    (rss_cons (rs_if (rt_cp (c_notN) (re_rd (re_call M_q_two (hr.mono (by decide)) (takes_of rfl rfl rfl rfl) (ra_cons (re_ix hr (re_rd (re_var 1)) (re_rd (re_int))) (ra_cons (re_ix hr (re_rd (re_var 1)) (re_rd (re_int))) (ra_nil))))) (re_rd (re_non)))
    (rss_one (rs_set 14 sc_law.nd (re_str)))
    (rss_nil))
    (rss_cons (rs_frz 8 (rs_set 15 sc_law.nd (re_call M_q_asked (hr.mono (by decide)) (takes_of rfl rfl rfl rfl) (ra_cons (re_var 2) (ra_cons (re_var 3) (ra_cons (re_var 8) (ra_nil)))))))
    (rss_cons (rs_if (rt_cp (c_notN) (re_rd (re_var 14)) (re_rd (re_non)))
    (rss_one (rs_ret (re_cp (c_eq hr) (re_rd (re_var 15)) (re_rd (re_var 14)))))
    (rss_nil))
    (rss_cons (rs_frz 8 (rs_if (rt_pw (rw_or (rt_cp (c_ne hr) (re_rd (re_meth0 MT_carries (hr.mono (by decide)) (takes_of rfl rfl rfl rfl) (re_var 15))) (re_varR 8)) (rw_or1 (rt_cp (c_ne hr) (re_rd (re_call M_break_of_two (hr.mono (by decide)) (takes_of rfl rfl rfl rfl) (ra_cons (re_var 15) (ra_nil)))) (re_rd (re_call M_q_two (hr.mono (by decide)) (takes_of rfl rfl rfl rfl) (ra_cons (re_var 3) (ra_cons (re_var 8) (ra_nil)))))))))
    (rss_one (rs_ret (re_bl)))
    (rss_nil)))
    (rss_cons (rs_frz 8 (rs_set 16 sc_law.nd (re_call M_q_broken (hr.mono (by decide)) (takes_of rfl rfl rfl rfl) (ra_cons (re_var 1) (ra_cons (re_var 3) (ra_cons (re_var 8) (ra_nil)))))))
    (rss_one (rs_ret (re_and (re_cp (c_eq hr) (re_rd (re_call M_break_of_three (hr.mono (by decide)) (takes_of rfl rfl rfl rfl) (ra_cons (re_var 15) (ra_nil)))) (re_rd (re_var 16))) (re_one (re_call M_q_tower_right (hr.mono (by decide)) (takes_of rfl rfl rfl rfl) (ra_cons (re_var 15) (ra_cons (re_var 16) (ra_cons (re_mul (re_rd (re_blt (b_len T.n_len) (rar_cons (re_varR 5) (rar_nil)))) (re_rd (re_blt (b_len T.n_len) (rar_cons (re_rd (re_var 4)) (rar_nil))))) (ra_nil))))))))))))))))))))))))
end
end
theorem all_mk {P q : Program} {w : World} {K : PySem.W.Frag} {h : Heap} {mg : Str → Option Value} {fa C_CarryError C_NoRounds C_NoElement C_NoLower C_NoUpper C_NoCarry C_NoTower C_Group C_Rounds C_Table C_Tower f_q_rounds f_q_cell f_q_members f_q_element f_q_added f_q_times f_q_table f_q_paired f_q_gcd f_q_odd_element f_q_ground f_Rounds_members f_Tower_members f_is_whole f_Rounds_has f_Group_look_at f_Rounds_put f_Group_added f_Tower_has f_Table_carry f_Tower_put f_break_of_three f_NoTower_init f_Rounds_nought f_Tower_init f_Group_size f_Rounds_is_even f_break_of_two f_Tower_is_even f_look_at_groups f_NoCarry_init f_Table_init f_are_rounds f_Rounds_init f_q_whole f_q_has f_q_two f_q_asked f_Table_carries f_q_put f_q_broken f_q_tower_right f_law : Addr} (X : K.In h) (G : h.Ns mainGlobals mg) (hfa : mg "law" = some (.ref fa))
    {oc_q_rounds kV_q_rounds dc_q_rounds pm_q_rounds cd_q_rounds ct_q_rounds : Value} {od_q_rounds an_q_rounds : Option Addr} {sl_q_rounds : Array (Option Value)}
    {oc_q_cell kV_q_cell dc_q_cell pm_q_cell cd_q_cell ct_q_cell : Value} {od_q_cell an_q_cell : Option Addr} {sl_q_cell : Array (Option Value)}
    {oc_q_members kV_q_members dc_q_members pm_q_members cd_q_members ct_q_members : Value} {od_q_members an_q_members : Option Addr} {sl_q_members : Array (Option Value)}
    {oc_q_element kV_q_element dc_q_element pm_q_element cd_q_element ct_q_element : Value} {od_q_element an_q_element : Option Addr} {sl_q_element : Array (Option Value)}
    {oc_q_added kV_q_added dc_q_added pm_q_added cd_q_added ct_q_added : Value} {od_q_added an_q_added : Option Addr} {sl_q_added : Array (Option Value)}
    {oc_q_times kV_q_times dc_q_times pm_q_times cd_q_times ct_q_times : Value} {od_q_times an_q_times : Option Addr} {sl_q_times : Array (Option Value)}
    {oc_q_table kV_q_table dc_q_table pm_q_table cd_q_table ct_q_table : Value} {od_q_table an_q_table : Option Addr} {sl_q_table : Array (Option Value)}
    {oc_q_paired kV_q_paired dc_q_paired pm_q_paired cd_q_paired ct_q_paired : Value} {od_q_paired an_q_paired : Option Addr} {sl_q_paired : Array (Option Value)}
    {oc_q_gcd kV_q_gcd dc_q_gcd pm_q_gcd cd_q_gcd ct_q_gcd : Value} {od_q_gcd an_q_gcd : Option Addr} {sl_q_gcd : Array (Option Value)}
    {oc_q_odd_element kV_q_odd_element dc_q_odd_element pm_q_odd_element cd_q_odd_element ct_q_odd_element : Value} {od_q_odd_element an_q_odd_element : Option Addr} {sl_q_odd_element : Array (Option Value)}
    {oc_q_ground kV_q_ground dc_q_ground pm_q_ground cd_q_ground ct_q_ground : Value} {od_q_ground an_q_ground : Option Addr} {sl_q_ground : Array (Option Value)}
    {oc_Rounds_members kV_Rounds_members dc_Rounds_members pm_Rounds_members cd_Rounds_members ct_Rounds_members : Value} {od_Rounds_members an_Rounds_members : Option Addr} {sl_Rounds_members : Array (Option Value)}
    {oc_Tower_members kV_Tower_members dc_Tower_members pm_Tower_members cd_Tower_members ct_Tower_members : Value} {od_Tower_members an_Tower_members : Option Addr} {sl_Tower_members : Array (Option Value)}
    {oc_is_whole kV_is_whole dc_is_whole pm_is_whole cd_is_whole ct_is_whole : Value} {od_is_whole an_is_whole : Option Addr} {sl_is_whole : Array (Option Value)}
    {oc_Rounds_has kV_Rounds_has dc_Rounds_has pm_Rounds_has cd_Rounds_has ct_Rounds_has : Value} {od_Rounds_has an_Rounds_has : Option Addr} {sl_Rounds_has : Array (Option Value)}
    {oc_Group_look_at kV_Group_look_at dc_Group_look_at pm_Group_look_at cd_Group_look_at ct_Group_look_at : Value} {od_Group_look_at an_Group_look_at : Option Addr} {sl_Group_look_at : Array (Option Value)}
    {oc_Rounds_put kV_Rounds_put dc_Rounds_put pm_Rounds_put cd_Rounds_put ct_Rounds_put : Value} {od_Rounds_put an_Rounds_put : Option Addr} {sl_Rounds_put : Array (Option Value)}
    {oc_Group_added kV_Group_added dc_Group_added pm_Group_added cd_Group_added ct_Group_added : Value} {od_Group_added an_Group_added : Option Addr} {sl_Group_added : Array (Option Value)}
    {oc_Tower_has kV_Tower_has dc_Tower_has pm_Tower_has cd_Tower_has ct_Tower_has : Value} {od_Tower_has an_Tower_has : Option Addr} {sl_Tower_has : Array (Option Value)}
    {oc_Table_carry kV_Table_carry dc_Table_carry pm_Table_carry cd_Table_carry ct_Table_carry : Value} {od_Table_carry an_Table_carry : Option Addr} {sl_Table_carry : Array (Option Value)}
    {oc_Tower_put kV_Tower_put dc_Tower_put pm_Tower_put cd_Tower_put ct_Tower_put : Value} {od_Tower_put an_Tower_put : Option Addr} {sl_Tower_put : Array (Option Value)}
    {oc_break_of_three kV_break_of_three dc_break_of_three pm_break_of_three cd_break_of_three ct_break_of_three : Value} {od_break_of_three an_break_of_three : Option Addr} {sl_break_of_three : Array (Option Value)}
    {oc_NoTower_init kV_NoTower_init dc_NoTower_init pm_NoTower_init cd_NoTower_init ct_NoTower_init : Value} {od_NoTower_init an_NoTower_init : Option Addr} {sl_NoTower_init : Array (Option Value)}
    {oc_Rounds_nought kV_Rounds_nought dc_Rounds_nought pm_Rounds_nought cd_Rounds_nought ct_Rounds_nought : Value} {od_Rounds_nought an_Rounds_nought : Option Addr} {sl_Rounds_nought : Array (Option Value)}
    {oc_Tower_init kV_Tower_init dc_Tower_init pm_Tower_init cd_Tower_init ct_Tower_init : Value} {od_Tower_init an_Tower_init : Option Addr} {sl_Tower_init : Array (Option Value)}
    {oc_Group_size kV_Group_size dc_Group_size pm_Group_size cd_Group_size ct_Group_size : Value} {od_Group_size an_Group_size : Option Addr} {sl_Group_size : Array (Option Value)}
    {oc_Rounds_is_even kV_Rounds_is_even dc_Rounds_is_even pm_Rounds_is_even cd_Rounds_is_even ct_Rounds_is_even : Value} {od_Rounds_is_even an_Rounds_is_even : Option Addr} {sl_Rounds_is_even : Array (Option Value)}
    {oc_break_of_two kV_break_of_two dc_break_of_two pm_break_of_two cd_break_of_two ct_break_of_two : Value} {od_break_of_two an_break_of_two : Option Addr} {sl_break_of_two : Array (Option Value)}
    {oc_Tower_is_even kV_Tower_is_even dc_Tower_is_even pm_Tower_is_even cd_Tower_is_even ct_Tower_is_even : Value} {od_Tower_is_even an_Tower_is_even : Option Addr} {sl_Tower_is_even : Array (Option Value)}
    {oc_look_at_groups kV_look_at_groups dc_look_at_groups pm_look_at_groups cd_look_at_groups ct_look_at_groups : Value} {od_look_at_groups an_look_at_groups : Option Addr} {sl_look_at_groups : Array (Option Value)}
    {oc_NoCarry_init kV_NoCarry_init dc_NoCarry_init pm_NoCarry_init cd_NoCarry_init ct_NoCarry_init : Value} {od_NoCarry_init an_NoCarry_init : Option Addr} {sl_NoCarry_init : Array (Option Value)}
    {oc_Table_init kV_Table_init dc_Table_init pm_Table_init cd_Table_init ct_Table_init : Value} {od_Table_init an_Table_init : Option Addr} {sl_Table_init : Array (Option Value)}
    {oc_are_rounds kV_are_rounds dc_are_rounds pm_are_rounds cd_are_rounds ct_are_rounds : Value} {od_are_rounds an_are_rounds : Option Addr} {sl_are_rounds : Array (Option Value)}
    {oc_Rounds_init kV_Rounds_init dc_Rounds_init pm_Rounds_init cd_Rounds_init ct_Rounds_init : Value} {od_Rounds_init an_Rounds_init : Option Addr} {sl_Rounds_init : Array (Option Value)}
    {oc_q_whole kV_q_whole dc_q_whole pm_q_whole cd_q_whole ct_q_whole : Value} {od_q_whole an_q_whole : Option Addr} {sl_q_whole : Array (Option Value)}
    {oc_q_has kV_q_has dc_q_has pm_q_has cd_q_has ct_q_has : Value} {od_q_has an_q_has : Option Addr} {sl_q_has : Array (Option Value)}
    {oc_q_two kV_q_two dc_q_two pm_q_two cd_q_two ct_q_two : Value} {od_q_two an_q_two : Option Addr} {sl_q_two : Array (Option Value)}
    {oc_q_asked kV_q_asked dc_q_asked pm_q_asked cd_q_asked ct_q_asked : Value} {od_q_asked an_q_asked : Option Addr} {sl_q_asked : Array (Option Value)}
    {oc_Table_carries kV_Table_carries dc_Table_carries pm_Table_carries cd_Table_carries ct_Table_carries : Value} {od_Table_carries an_Table_carries : Option Addr} {sl_Table_carries : Array (Option Value)}
    {oc_q_put kV_q_put dc_q_put pm_q_put cd_q_put ct_q_put : Value} {od_q_put an_q_put : Option Addr} {sl_q_put : Array (Option Value)}
    {oc_q_broken kV_q_broken dc_q_broken pm_q_broken cd_q_broken ct_q_broken : Value} {od_q_broken an_q_broken : Option Addr} {sl_q_broken : Array (Option Value)}
    {oc_q_tower_right kV_q_tower_right dc_q_tower_right pm_q_tower_right cd_q_tower_right ct_q_tower_right : Value} {od_q_tower_right an_q_tower_right : Option Addr} {sl_q_tower_right : Array (Option Value)}
    {oc_law kV_law dc_law pm_law cd_law ct_law : Value} {od_law an_law : Option Addr} {sl_law : Array (Option Value)}
    {nm_NoTower q_NoTower : Str} {NA_NoTower : Addr} {bs_NoTower bm_NoTower : List Value} {sn_NoTower : List Str} {sub_NoTower : List Value} {ab_NoTower : Bool} {col_NoTower : Option Bool} {dd_NoTower : Option Addr} {k0_NoTower k1_NoTower k2_NoTower k3_NoTower k5_NoTower : Option Value}
    {t_MOST_LOWER : Tok}
    {t_MOST_UPPER : Tok}
    {nm_NoCarry q_NoCarry : Str} {NA_NoCarry : Addr} {bs_NoCarry bm_NoCarry : List Value} {sn_NoCarry : List Str} {sub_NoCarry : List Value} {ab_NoCarry : Bool} {col_NoCarry : Option Bool} {dd_NoCarry : Option Addr} {k0_NoCarry k1_NoCarry k2_NoCarry k3_NoCarry k5_NoCarry : Option Value}
    {t_MOST_ROUNDS : Tok}
    {t_MOST_ELEMENTS : Tok}
    (aC_CarryError : PySem.W.nsIn K mainGlobals "CarryError" = some (some (.ref C_CarryError)))
    (aC_NoRounds : PySem.W.nsIn K mainGlobals "NoRounds" = some (some (.ref C_NoRounds)))
    (aC_NoElement : PySem.W.nsIn K mainGlobals "NoElement" = some (some (.ref C_NoElement)))
    (aC_NoLower : PySem.W.nsIn K mainGlobals "NoLower" = some (some (.ref C_NoLower)))
    (aC_NoUpper : PySem.W.nsIn K mainGlobals "NoUpper" = some (some (.ref C_NoUpper)))
    (aC_NoCarry : PySem.W.nsIn K mainGlobals "NoCarry" = some (some (.ref C_NoCarry)))
    (aC_NoTower : PySem.W.nsIn K mainGlobals "NoTower" = some (some (.ref C_NoTower)))
    (aC_Group : PySem.W.nsIn K mainGlobals "Group" = some (some (.ref C_Group)))
    (aC_Rounds : PySem.W.nsIn K mainGlobals "Rounds" = some (some (.ref C_Rounds)))
    (aC_Table : PySem.W.nsIn K mainGlobals "Table" = some (some (.ref C_Table)))
    (aC_Tower : PySem.W.nsIn K mainGlobals "Tower" = some (some (.ref C_Tower)))
    (a_q_rounds : PySem.W.nsIn K mainGlobals "_law_rounds" = some (some (.ref f_q_rounds)))
    (l_q_rounds : K.lookup f_q_rounds = some ⟨oc_q_rounds, od_q_rounds, .func (PySem.W.fnOf "_law_rounds" "_law_rounds" (defArgs s_q_rounds) (defBody s_q_rounds) (defScope s_q_rounds) .none kV_q_rounds dc_q_rounds pm_q_rounds an_q_rounds cd_q_rounds ct_q_rounds), sl_q_rounds⟩)
    (c_q_rounds : PySem.W.codeIn K cd_q_rounds "_law_rounds" = true) (k_q_rounds : PySem.W.keepIn K (.ref f_q_rounds) = true)
    (a_q_cell : PySem.W.nsIn K mainGlobals "_law_cell" = some (some (.ref f_q_cell)))
    (l_q_cell : K.lookup f_q_cell = some ⟨oc_q_cell, od_q_cell, .func (PySem.W.fnOf "_law_cell" "_law_cell" (defArgs s_q_cell) (defBody s_q_cell) (defScope s_q_cell) .none kV_q_cell dc_q_cell pm_q_cell an_q_cell cd_q_cell ct_q_cell), sl_q_cell⟩)
    (c_q_cell : PySem.W.codeIn K cd_q_cell "_law_cell" = true) (k_q_cell : PySem.W.keepIn K (.ref f_q_cell) = true)
    (a_q_members : PySem.W.nsIn K mainGlobals "_law_members" = some (some (.ref f_q_members)))
    (l_q_members : K.lookup f_q_members = some ⟨oc_q_members, od_q_members, .func (PySem.W.fnOf "_law_members" "_law_members" (defArgs s_q_members) (defBody s_q_members) (defScope s_q_members) .none kV_q_members dc_q_members pm_q_members an_q_members cd_q_members ct_q_members), sl_q_members⟩)
    (c_q_members : PySem.W.codeIn K cd_q_members "_law_members" = true) (k_q_members : PySem.W.keepIn K (.ref f_q_members) = true)
    (a_q_element : PySem.W.nsIn K mainGlobals "_law_element" = some (some (.ref f_q_element)))
    (l_q_element : K.lookup f_q_element = some ⟨oc_q_element, od_q_element, .func (PySem.W.fnOf "_law_element" "_law_element" (defArgs s_q_element) (defBody s_q_element) (defScope s_q_element) .none kV_q_element dc_q_element pm_q_element an_q_element cd_q_element ct_q_element), sl_q_element⟩)
    (c_q_element : PySem.W.codeIn K cd_q_element "_law_element" = true) (k_q_element : PySem.W.keepIn K (.ref f_q_element) = true)
    (a_q_added : PySem.W.nsIn K mainGlobals "_law_added" = some (some (.ref f_q_added)))
    (l_q_added : K.lookup f_q_added = some ⟨oc_q_added, od_q_added, .func (PySem.W.fnOf "_law_added" "_law_added" (defArgs s_q_added) (defBody s_q_added) (defScope s_q_added) .none kV_q_added dc_q_added pm_q_added an_q_added cd_q_added ct_q_added), sl_q_added⟩)
    (c_q_added : PySem.W.codeIn K cd_q_added "_law_added" = true) (k_q_added : PySem.W.keepIn K (.ref f_q_added) = true)
    (a_q_times : PySem.W.nsIn K mainGlobals "_law_times" = some (some (.ref f_q_times)))
    (l_q_times : K.lookup f_q_times = some ⟨oc_q_times, od_q_times, .func (PySem.W.fnOf "_law_times" "_law_times" (defArgs s_q_times) (defBody s_q_times) (defScope s_q_times) .none kV_q_times dc_q_times pm_q_times an_q_times cd_q_times ct_q_times), sl_q_times⟩)
    (c_q_times : PySem.W.codeIn K cd_q_times "_law_times" = true) (k_q_times : PySem.W.keepIn K (.ref f_q_times) = true)
    (a_q_table : PySem.W.nsIn K mainGlobals "_law_table" = some (some (.ref f_q_table)))
    (l_q_table : K.lookup f_q_table = some ⟨oc_q_table, od_q_table, .func (PySem.W.fnOf "_law_table" "_law_table" (defArgs s_q_table) (defBody s_q_table) (defScope s_q_table) .none kV_q_table dc_q_table pm_q_table an_q_table cd_q_table ct_q_table), sl_q_table⟩)
    (c_q_table : PySem.W.codeIn K cd_q_table "_law_table" = true) (k_q_table : PySem.W.keepIn K (.ref f_q_table) = true)
    (a_q_paired : PySem.W.nsIn K mainGlobals "_law_paired" = some (some (.ref f_q_paired)))
    (l_q_paired : K.lookup f_q_paired = some ⟨oc_q_paired, od_q_paired, .func (PySem.W.fnOf "_law_paired" "_law_paired" (defArgs s_q_paired) (defBody s_q_paired) (defScope s_q_paired) .none kV_q_paired dc_q_paired pm_q_paired an_q_paired cd_q_paired ct_q_paired), sl_q_paired⟩)
    (c_q_paired : PySem.W.codeIn K cd_q_paired "_law_paired" = true) (k_q_paired : PySem.W.keepIn K (.ref f_q_paired) = true)
    (a_q_gcd : PySem.W.nsIn K mainGlobals "_law_gcd" = some (some (.ref f_q_gcd)))
    (l_q_gcd : K.lookup f_q_gcd = some ⟨oc_q_gcd, od_q_gcd, .func (PySem.W.fnOf "_law_gcd" "_law_gcd" (defArgs s_q_gcd) (defBody s_q_gcd) (defScope s_q_gcd) .none kV_q_gcd dc_q_gcd pm_q_gcd an_q_gcd cd_q_gcd ct_q_gcd), sl_q_gcd⟩)
    (c_q_gcd : PySem.W.codeIn K cd_q_gcd "_law_gcd" = true) (k_q_gcd : PySem.W.keepIn K (.ref f_q_gcd) = true)
    (a_q_odd_element : PySem.W.nsIn K mainGlobals "_law_odd_element" = some (some (.ref f_q_odd_element)))
    (l_q_odd_element : K.lookup f_q_odd_element = some ⟨oc_q_odd_element, od_q_odd_element, .func (PySem.W.fnOf "_law_odd_element" "_law_odd_element" (defArgs s_q_odd_element) (defBody s_q_odd_element) (defScope s_q_odd_element) .none kV_q_odd_element dc_q_odd_element pm_q_odd_element an_q_odd_element cd_q_odd_element ct_q_odd_element), sl_q_odd_element⟩)
    (c_q_odd_element : PySem.W.codeIn K cd_q_odd_element "_law_odd_element" = true) (k_q_odd_element : PySem.W.keepIn K (.ref f_q_odd_element) = true)
    (a_q_ground : PySem.W.nsIn K mainGlobals "_law_ground" = some (some (.ref f_q_ground)))
    (l_q_ground : K.lookup f_q_ground = some ⟨oc_q_ground, od_q_ground, .func (PySem.W.fnOf "_law_ground" "_law_ground" (defArgs s_q_ground) (defBody s_q_ground) (defScope s_q_ground) .none kV_q_ground dc_q_ground pm_q_ground an_q_ground cd_q_ground ct_q_ground), sl_q_ground⟩)
    (c_q_ground : PySem.W.codeIn K cd_q_ground "_law_ground" = true) (k_q_ground : PySem.W.keepIn K (.ref f_q_ground) = true)
    (a_Rounds_members : PySem.W.findIn K (.ref C_Rounds) "members" = some (some (.ref f_Rounds_members)))
    (l_Rounds_members : K.lookup f_Rounds_members = some ⟨oc_Rounds_members, od_Rounds_members, .func (PySem.W.fnOf "members" "Rounds.members" (defArgs s_Rounds_members) (defBody s_Rounds_members) (defScope s_Rounds_members) .none kV_Rounds_members dc_Rounds_members pm_Rounds_members an_Rounds_members cd_Rounds_members ct_Rounds_members), sl_Rounds_members⟩)
    (c_Rounds_members : PySem.W.codeIn K cd_Rounds_members "Rounds.members" = true) (k_Rounds_members : PySem.W.keepIn K (.ref f_Rounds_members) = true)
    (i_Rounds_members : PySem.W.isFn K (.ref f_Rounds_members) = true)
    (a_Tower_members : PySem.W.findIn K (.ref C_Tower) "members" = some (some (.ref f_Tower_members)))
    (l_Tower_members : K.lookup f_Tower_members = some ⟨oc_Tower_members, od_Tower_members, .func (PySem.W.fnOf "members" "Tower.members" (defArgs s_Tower_members) (defBody s_Tower_members) (defScope s_Tower_members) .none kV_Tower_members dc_Tower_members pm_Tower_members an_Tower_members cd_Tower_members ct_Tower_members), sl_Tower_members⟩)
    (c_Tower_members : PySem.W.codeIn K cd_Tower_members "Tower.members" = true) (k_Tower_members : PySem.W.keepIn K (.ref f_Tower_members) = true)
    (i_Tower_members : PySem.W.isFn K (.ref f_Tower_members) = true)
    (a_is_whole : PySem.W.nsIn K mainGlobals "is_whole" = some (some (.ref f_is_whole)))
    (l_is_whole : K.lookup f_is_whole = some ⟨oc_is_whole, od_is_whole, .func (PySem.W.fnOf "is_whole" "is_whole" (defArgs s_is_whole) (defBody s_is_whole) (defScope s_is_whole) .none kV_is_whole dc_is_whole pm_is_whole an_is_whole cd_is_whole ct_is_whole), sl_is_whole⟩)
    (c_is_whole : PySem.W.codeIn K cd_is_whole "is_whole" = true) (k_is_whole : PySem.W.keepIn K (.ref f_is_whole) = true)
    (a_Rounds_has : PySem.W.findIn K (.ref C_Rounds) "has" = some (some (.ref f_Rounds_has)))
    (l_Rounds_has : K.lookup f_Rounds_has = some ⟨oc_Rounds_has, od_Rounds_has, .func (PySem.W.fnOf "has" "Rounds.has" (defArgs s_Rounds_has) (defBody s_Rounds_has) (defScope s_Rounds_has) .none kV_Rounds_has dc_Rounds_has pm_Rounds_has an_Rounds_has cd_Rounds_has ct_Rounds_has), sl_Rounds_has⟩)
    (c_Rounds_has : PySem.W.codeIn K cd_Rounds_has "Rounds.has" = true) (k_Rounds_has : PySem.W.keepIn K (.ref f_Rounds_has) = true)
    (i_Rounds_has : PySem.W.isFn K (.ref f_Rounds_has) = true)
    (a_Group_look_at : PySem.W.findIn K (.ref C_Group) "look_at" = some (some (.ref f_Group_look_at)))
    (l_Group_look_at : K.lookup f_Group_look_at = some ⟨oc_Group_look_at, od_Group_look_at, .func (PySem.W.fnOf "look_at" "Group.look_at" (defArgs s_Group_look_at) (defBody s_Group_look_at) (defScope s_Group_look_at) .none kV_Group_look_at dc_Group_look_at pm_Group_look_at an_Group_look_at cd_Group_look_at ct_Group_look_at), sl_Group_look_at⟩)
    (c_Group_look_at : PySem.W.codeIn K cd_Group_look_at "Group.look_at" = true) (k_Group_look_at : PySem.W.keepIn K (.ref f_Group_look_at) = true)
    (i_Group_look_at : PySem.W.isFn K (.ref f_Group_look_at) = true)
    (a_Rounds_put : PySem.W.findIn K (.ref C_Rounds) "put" = some (some (.ref f_Rounds_put)))
    (l_Rounds_put : K.lookup f_Rounds_put = some ⟨oc_Rounds_put, od_Rounds_put, .func (PySem.W.fnOf "put" "Rounds.put" (defArgs s_Rounds_put) (defBody s_Rounds_put) (defScope s_Rounds_put) .none kV_Rounds_put dc_Rounds_put pm_Rounds_put an_Rounds_put cd_Rounds_put ct_Rounds_put), sl_Rounds_put⟩)
    (c_Rounds_put : PySem.W.codeIn K cd_Rounds_put "Rounds.put" = true) (k_Rounds_put : PySem.W.keepIn K (.ref f_Rounds_put) = true)
    (i_Rounds_put : PySem.W.isFn K (.ref f_Rounds_put) = true)
    (a_Group_added : PySem.W.findIn K (.ref C_Group) "added" = some (some (.ref f_Group_added)))
    (l_Group_added : K.lookup f_Group_added = some ⟨oc_Group_added, od_Group_added, .func (PySem.W.fnOf "added" "Group.added" (defArgs s_Group_added) (defBody s_Group_added) (defScope s_Group_added) .none kV_Group_added dc_Group_added pm_Group_added an_Group_added cd_Group_added ct_Group_added), sl_Group_added⟩)
    (c_Group_added : PySem.W.codeIn K cd_Group_added "Group.added" = true) (k_Group_added : PySem.W.keepIn K (.ref f_Group_added) = true)
    (i_Group_added : PySem.W.isFn K (.ref f_Group_added) = true)
    (a_Tower_has : PySem.W.findIn K (.ref C_Tower) "has" = some (some (.ref f_Tower_has)))
    (l_Tower_has : K.lookup f_Tower_has = some ⟨oc_Tower_has, od_Tower_has, .func (PySem.W.fnOf "has" "Tower.has" (defArgs s_Tower_has) (defBody s_Tower_has) (defScope s_Tower_has) .none kV_Tower_has dc_Tower_has pm_Tower_has an_Tower_has cd_Tower_has ct_Tower_has), sl_Tower_has⟩)
    (c_Tower_has : PySem.W.codeIn K cd_Tower_has "Tower.has" = true) (k_Tower_has : PySem.W.keepIn K (.ref f_Tower_has) = true)
    (i_Tower_has : PySem.W.isFn K (.ref f_Tower_has) = true)
    (a_Table_carry : PySem.W.findIn K (.ref C_Table) "carry" = some (some (.ref f_Table_carry)))
    (l_Table_carry : K.lookup f_Table_carry = some ⟨oc_Table_carry, od_Table_carry, .func (PySem.W.fnOf "carry" "Table.carry" (defArgs s_Table_carry) (defBody s_Table_carry) (defScope s_Table_carry) .none kV_Table_carry dc_Table_carry pm_Table_carry an_Table_carry cd_Table_carry ct_Table_carry), sl_Table_carry⟩)
    (c_Table_carry : PySem.W.codeIn K cd_Table_carry "Table.carry" = true) (k_Table_carry : PySem.W.keepIn K (.ref f_Table_carry) = true)
    (i_Table_carry : PySem.W.isFn K (.ref f_Table_carry) = true)
    (a_Tower_put : PySem.W.findIn K (.ref C_Tower) "put" = some (some (.ref f_Tower_put)))
    (l_Tower_put : K.lookup f_Tower_put = some ⟨oc_Tower_put, od_Tower_put, .func (PySem.W.fnOf "put" "Tower.put" (defArgs s_Tower_put) (defBody s_Tower_put) (defScope s_Tower_put) .none kV_Tower_put dc_Tower_put pm_Tower_put an_Tower_put cd_Tower_put ct_Tower_put), sl_Tower_put⟩)
    (c_Tower_put : PySem.W.codeIn K cd_Tower_put "Tower.put" = true) (k_Tower_put : PySem.W.keepIn K (.ref f_Tower_put) = true)
    (i_Tower_put : PySem.W.isFn K (.ref f_Tower_put) = true)
    (a_break_of_three : PySem.W.nsIn K mainGlobals "break_of_three" = some (some (.ref f_break_of_three)))
    (l_break_of_three : K.lookup f_break_of_three = some ⟨oc_break_of_three, od_break_of_three, .func (PySem.W.fnOf "break_of_three" "break_of_three" (defArgs s_break_of_three) (defBody s_break_of_three) (defScope s_break_of_three) .none kV_break_of_three dc_break_of_three pm_break_of_three an_break_of_three cd_break_of_three ct_break_of_three), sl_break_of_three⟩)
    (c_break_of_three : PySem.W.codeIn K cd_break_of_three "break_of_three" = true) (k_break_of_three : PySem.W.keepIn K (.ref f_break_of_three) = true)
    (a_NoTower_init : PySem.W.findIn K (.ref C_NoTower) "__init__" = some (some (.ref f_NoTower_init)))
    (l_NoTower_init : K.lookup f_NoTower_init = some ⟨oc_NoTower_init, od_NoTower_init, .func (PySem.W.fnOf "__init__" "NoTower.__init__" (defArgs s_NoTower_init) (defBody s_NoTower_init) (defScope s_NoTower_init) .none kV_NoTower_init dc_NoTower_init pm_NoTower_init an_NoTower_init cd_NoTower_init ct_NoTower_init), sl_NoTower_init⟩)
    (c_NoTower_init : PySem.W.codeIn K cd_NoTower_init "NoTower.__init__" = true) (k_NoTower_init : PySem.W.keepIn K (.ref f_NoTower_init) = true)
    (a_Rounds_nought : PySem.W.findIn K (.ref C_Rounds) "nought" = some (some (.ref f_Rounds_nought)))
    (l_Rounds_nought : K.lookup f_Rounds_nought = some ⟨oc_Rounds_nought, od_Rounds_nought, .func (PySem.W.fnOf "nought" "Rounds.nought" (defArgs s_Rounds_nought) (defBody s_Rounds_nought) (defScope s_Rounds_nought) .none kV_Rounds_nought dc_Rounds_nought pm_Rounds_nought an_Rounds_nought cd_Rounds_nought ct_Rounds_nought), sl_Rounds_nought⟩)
    (c_Rounds_nought : PySem.W.codeIn K cd_Rounds_nought "Rounds.nought" = true) (k_Rounds_nought : PySem.W.keepIn K (.ref f_Rounds_nought) = true)
    (i_Rounds_nought : PySem.W.isFn K (.ref f_Rounds_nought) = true)
    (a_Tower_init : PySem.W.findIn K (.ref C_Tower) "__init__" = some (some (.ref f_Tower_init)))
    (l_Tower_init : K.lookup f_Tower_init = some ⟨oc_Tower_init, od_Tower_init, .func (PySem.W.fnOf "__init__" "Tower.__init__" (defArgs s_Tower_init) (defBody s_Tower_init) (defScope s_Tower_init) .none kV_Tower_init dc_Tower_init pm_Tower_init an_Tower_init cd_Tower_init ct_Tower_init), sl_Tower_init⟩)
    (c_Tower_init : PySem.W.codeIn K cd_Tower_init "Tower.__init__" = true) (k_Tower_init : PySem.W.keepIn K (.ref f_Tower_init) = true)
    (i_Tower_init : PySem.W.isFn K (.ref f_Tower_init) = true)
    (a_Group_size : PySem.W.findIn K (.ref C_Group) "size" = some (some (.ref f_Group_size)))
    (l_Group_size : K.lookup f_Group_size = some ⟨oc_Group_size, od_Group_size, .func (PySem.W.fnOf "size" "Group.size" (defArgs s_Group_size) (defBody s_Group_size) (defScope s_Group_size) .none kV_Group_size dc_Group_size pm_Group_size an_Group_size cd_Group_size ct_Group_size), sl_Group_size⟩)
    (c_Group_size : PySem.W.codeIn K cd_Group_size "Group.size" = true) (k_Group_size : PySem.W.keepIn K (.ref f_Group_size) = true)
    (i_Group_size : PySem.W.isFn K (.ref f_Group_size) = true)
    (a_Rounds_is_even : PySem.W.findIn K (.ref C_Rounds) "is_even" = some (some (.ref f_Rounds_is_even)))
    (l_Rounds_is_even : K.lookup f_Rounds_is_even = some ⟨oc_Rounds_is_even, od_Rounds_is_even, .func (PySem.W.fnOf "is_even" "Rounds.is_even" (defArgs s_Rounds_is_even) (defBody s_Rounds_is_even) (defScope s_Rounds_is_even) .none kV_Rounds_is_even dc_Rounds_is_even pm_Rounds_is_even an_Rounds_is_even cd_Rounds_is_even ct_Rounds_is_even), sl_Rounds_is_even⟩)
    (c_Rounds_is_even : PySem.W.codeIn K cd_Rounds_is_even "Rounds.is_even" = true) (k_Rounds_is_even : PySem.W.keepIn K (.ref f_Rounds_is_even) = true)
    (i_Rounds_is_even : PySem.W.isFn K (.ref f_Rounds_is_even) = true)
    (a_break_of_two : PySem.W.nsIn K mainGlobals "break_of_two" = some (some (.ref f_break_of_two)))
    (l_break_of_two : K.lookup f_break_of_two = some ⟨oc_break_of_two, od_break_of_two, .func (PySem.W.fnOf "break_of_two" "break_of_two" (defArgs s_break_of_two) (defBody s_break_of_two) (defScope s_break_of_two) .none kV_break_of_two dc_break_of_two pm_break_of_two an_break_of_two cd_break_of_two ct_break_of_two), sl_break_of_two⟩)
    (c_break_of_two : PySem.W.codeIn K cd_break_of_two "break_of_two" = true) (k_break_of_two : PySem.W.keepIn K (.ref f_break_of_two) = true)
    (a_Tower_is_even : PySem.W.findIn K (.ref C_Tower) "is_even" = some (some (.ref f_Tower_is_even)))
    (l_Tower_is_even : K.lookup f_Tower_is_even = some ⟨oc_Tower_is_even, od_Tower_is_even, .func (PySem.W.fnOf "is_even" "Tower.is_even" (defArgs s_Tower_is_even) (defBody s_Tower_is_even) (defScope s_Tower_is_even) .none kV_Tower_is_even dc_Tower_is_even pm_Tower_is_even an_Tower_is_even cd_Tower_is_even ct_Tower_is_even), sl_Tower_is_even⟩)
    (c_Tower_is_even : PySem.W.codeIn K cd_Tower_is_even "Tower.is_even" = true) (k_Tower_is_even : PySem.W.keepIn K (.ref f_Tower_is_even) = true)
    (i_Tower_is_even : PySem.W.isFn K (.ref f_Tower_is_even) = true)
    (a_look_at_groups : PySem.W.nsIn K mainGlobals "look_at_groups" = some (some (.ref f_look_at_groups)))
    (l_look_at_groups : K.lookup f_look_at_groups = some ⟨oc_look_at_groups, od_look_at_groups, .func (PySem.W.fnOf "look_at_groups" "look_at_groups" (defArgs s_look_at_groups) (defBody s_look_at_groups) (defScope s_look_at_groups) .none kV_look_at_groups dc_look_at_groups pm_look_at_groups an_look_at_groups cd_look_at_groups ct_look_at_groups), sl_look_at_groups⟩)
    (c_look_at_groups : PySem.W.codeIn K cd_look_at_groups "look_at_groups" = true) (k_look_at_groups : PySem.W.keepIn K (.ref f_look_at_groups) = true)
    (a_NoCarry_init : PySem.W.findIn K (.ref C_NoCarry) "__init__" = some (some (.ref f_NoCarry_init)))
    (l_NoCarry_init : K.lookup f_NoCarry_init = some ⟨oc_NoCarry_init, od_NoCarry_init, .func (PySem.W.fnOf "__init__" "NoCarry.__init__" (defArgs s_NoCarry_init) (defBody s_NoCarry_init) (defScope s_NoCarry_init) .none kV_NoCarry_init dc_NoCarry_init pm_NoCarry_init an_NoCarry_init cd_NoCarry_init ct_NoCarry_init), sl_NoCarry_init⟩)
    (c_NoCarry_init : PySem.W.codeIn K cd_NoCarry_init "NoCarry.__init__" = true) (k_NoCarry_init : PySem.W.keepIn K (.ref f_NoCarry_init) = true)
    (a_Table_init : PySem.W.findIn K (.ref C_Table) "__init__" = some (some (.ref f_Table_init)))
    (l_Table_init : K.lookup f_Table_init = some ⟨oc_Table_init, od_Table_init, .func (PySem.W.fnOf "__init__" "Table.__init__" (defArgs s_Table_init) (defBody s_Table_init) (defScope s_Table_init) .none kV_Table_init dc_Table_init pm_Table_init an_Table_init cd_Table_init ct_Table_init), sl_Table_init⟩)
    (c_Table_init : PySem.W.codeIn K cd_Table_init "Table.__init__" = true) (k_Table_init : PySem.W.keepIn K (.ref f_Table_init) = true)
    (i_Table_init : PySem.W.isFn K (.ref f_Table_init) = true)
    (a_are_rounds : PySem.W.nsIn K mainGlobals "are_rounds" = some (some (.ref f_are_rounds)))
    (l_are_rounds : K.lookup f_are_rounds = some ⟨oc_are_rounds, od_are_rounds, .func (PySem.W.fnOf "are_rounds" "are_rounds" (defArgs s_are_rounds) (defBody s_are_rounds) (defScope s_are_rounds) .none kV_are_rounds dc_are_rounds pm_are_rounds an_are_rounds cd_are_rounds ct_are_rounds), sl_are_rounds⟩)
    (c_are_rounds : PySem.W.codeIn K cd_are_rounds "are_rounds" = true) (k_are_rounds : PySem.W.keepIn K (.ref f_are_rounds) = true)
    (a_Rounds_init : PySem.W.findIn K (.ref C_Rounds) "__init__" = some (some (.ref f_Rounds_init)))
    (l_Rounds_init : K.lookup f_Rounds_init = some ⟨oc_Rounds_init, od_Rounds_init, .func (PySem.W.fnOf "__init__" "Rounds.__init__" (defArgs s_Rounds_init) (defBody s_Rounds_init) (defScope s_Rounds_init) .none kV_Rounds_init dc_Rounds_init pm_Rounds_init an_Rounds_init cd_Rounds_init ct_Rounds_init), sl_Rounds_init⟩)
    (c_Rounds_init : PySem.W.codeIn K cd_Rounds_init "Rounds.__init__" = true) (k_Rounds_init : PySem.W.keepIn K (.ref f_Rounds_init) = true)
    (i_Rounds_init : PySem.W.isFn K (.ref f_Rounds_init) = true)
    (a_q_whole : PySem.W.nsIn K mainGlobals "_law_whole" = some (some (.ref f_q_whole)))
    (l_q_whole : K.lookup f_q_whole = some ⟨oc_q_whole, od_q_whole, .func (PySem.W.fnOf "_law_whole" "_law_whole" (defArgs s_q_whole) (defBody s_q_whole) (defScope s_q_whole) .none kV_q_whole dc_q_whole pm_q_whole an_q_whole cd_q_whole ct_q_whole), sl_q_whole⟩)
    (c_q_whole : PySem.W.codeIn K cd_q_whole "_law_whole" = true) (k_q_whole : PySem.W.keepIn K (.ref f_q_whole) = true)
    (a_q_has : PySem.W.nsIn K mainGlobals "_law_has" = some (some (.ref f_q_has)))
    (l_q_has : K.lookup f_q_has = some ⟨oc_q_has, od_q_has, .func (PySem.W.fnOf "_law_has" "_law_has" (defArgs s_q_has) (defBody s_q_has) (defScope s_q_has) .none kV_q_has dc_q_has pm_q_has an_q_has cd_q_has ct_q_has), sl_q_has⟩)
    (c_q_has : PySem.W.codeIn K cd_q_has "_law_has" = true) (k_q_has : PySem.W.keepIn K (.ref f_q_has) = true)
    (a_q_two : PySem.W.nsIn K mainGlobals "_law_two" = some (some (.ref f_q_two)))
    (l_q_two : K.lookup f_q_two = some ⟨oc_q_two, od_q_two, .func (PySem.W.fnOf "_law_two" "_law_two" (defArgs s_q_two) (defBody s_q_two) (defScope s_q_two) .none kV_q_two dc_q_two pm_q_two an_q_two cd_q_two ct_q_two), sl_q_two⟩)
    (c_q_two : PySem.W.codeIn K cd_q_two "_law_two" = true) (k_q_two : PySem.W.keepIn K (.ref f_q_two) = true)
    (a_q_asked : PySem.W.nsIn K mainGlobals "_law_asked" = some (some (.ref f_q_asked)))
    (l_q_asked : K.lookup f_q_asked = some ⟨oc_q_asked, od_q_asked, .func (PySem.W.fnOf "_law_asked" "_law_asked" (defArgs s_q_asked) (defBody s_q_asked) (defScope s_q_asked) .none kV_q_asked dc_q_asked pm_q_asked an_q_asked cd_q_asked ct_q_asked), sl_q_asked⟩)
    (c_q_asked : PySem.W.codeIn K cd_q_asked "_law_asked" = true) (k_q_asked : PySem.W.keepIn K (.ref f_q_asked) = true)
    (a_Table_carries : PySem.W.findIn K (.ref C_Table) "carries" = some (some (.ref f_Table_carries)))
    (l_Table_carries : K.lookup f_Table_carries = some ⟨oc_Table_carries, od_Table_carries, .func (PySem.W.fnOf "carries" "Table.carries" (defArgs s_Table_carries) (defBody s_Table_carries) (defScope s_Table_carries) .none kV_Table_carries dc_Table_carries pm_Table_carries an_Table_carries cd_Table_carries ct_Table_carries), sl_Table_carries⟩)
    (c_Table_carries : PySem.W.codeIn K cd_Table_carries "Table.carries" = true) (k_Table_carries : PySem.W.keepIn K (.ref f_Table_carries) = true)
    (i_Table_carries : PySem.W.isFn K (.ref f_Table_carries) = true)
    (a_q_put : PySem.W.nsIn K mainGlobals "_law_put" = some (some (.ref f_q_put)))
    (l_q_put : K.lookup f_q_put = some ⟨oc_q_put, od_q_put, .func (PySem.W.fnOf "_law_put" "_law_put" (defArgs s_q_put) (defBody s_q_put) (defScope s_q_put) .none kV_q_put dc_q_put pm_q_put an_q_put cd_q_put ct_q_put), sl_q_put⟩)
    (c_q_put : PySem.W.codeIn K cd_q_put "_law_put" = true) (k_q_put : PySem.W.keepIn K (.ref f_q_put) = true)
    (a_q_broken : PySem.W.nsIn K mainGlobals "_law_broken" = some (some (.ref f_q_broken)))
    (l_q_broken : K.lookup f_q_broken = some ⟨oc_q_broken, od_q_broken, .func (PySem.W.fnOf "_law_broken" "_law_broken" (defArgs s_q_broken) (defBody s_q_broken) (defScope s_q_broken) .none kV_q_broken dc_q_broken pm_q_broken an_q_broken cd_q_broken ct_q_broken), sl_q_broken⟩)
    (c_q_broken : PySem.W.codeIn K cd_q_broken "_law_broken" = true) (k_q_broken : PySem.W.keepIn K (.ref f_q_broken) = true)
    (a_q_tower_right : PySem.W.nsIn K mainGlobals "_law_tower_right" = some (some (.ref f_q_tower_right)))
    (l_q_tower_right : K.lookup f_q_tower_right = some ⟨oc_q_tower_right, od_q_tower_right, .func (PySem.W.fnOf "_law_tower_right" "_law_tower_right" (defArgs s_q_tower_right) (defBody s_q_tower_right) (defScope s_q_tower_right) .none kV_q_tower_right dc_q_tower_right pm_q_tower_right an_q_tower_right cd_q_tower_right ct_q_tower_right), sl_q_tower_right⟩)
    (c_q_tower_right : PySem.W.codeIn K cd_q_tower_right "_law_tower_right" = true) (k_q_tower_right : PySem.W.keepIn K (.ref f_q_tower_right) = true)
    (a_law : PySem.W.nsIn K mainGlobals "law" = some (some (.ref f_law)))
    (l_law : K.lookup f_law = some ⟨oc_law, od_law, .func (PySem.W.fnOf "law" "law" (defArgs s_law) (defBody s_law) (defScope s_law) .none kV_law dc_law pm_law an_law cd_law ct_law), sl_law⟩)
    (c_law : PySem.W.codeIn K cd_law "law" = true) (k_law : PySem.W.keepIn K (.ref f_law) = true)
    (z_range : PySem.W.nsIn K mainGlobals "range" = some none)
    (z_min : PySem.W.nsIn K mainGlobals "min" = some none)
    (z_tuple : PySem.W.nsIn K mainGlobals "tuple" = some none)
    (z_len : PySem.W.nsIn K mainGlobals "len" = some none)
    (z_sum : PySem.W.nsIn K mainGlobals "sum" = some none)
    (z_enumerate : PySem.W.nsIn K mainGlobals "enumerate" = some none)
    (fl_lower : flB K "lower" [(2, C_Table)] = true)
    (fl_upper : flB K "upper" [(2, C_Table)] = true)
    (fl_rounds : flB K "rounds" [(0, C_Rounds)] = true)
    (fl_table : flB K "table" [(1, C_Tower)] = true)
    (z_isinstance : PySem.W.nsIn K mainGlobals "isinstance" = some none)
    (z_zip : PySem.W.nsIn K mainGlobals "zip" = some none)
    (z_int : PySem.W.nsIn K mainGlobals "int" = some none)
    (z_bool : PySem.W.nsIn K mainGlobals "bool" = some none)
    (ob_NoElement : e0B K C_NoElement = true)
    (fl_kept : flB K "kept" [(2, C_Table)] = true)
    (xL_NoTower : K.lookup C_NoTower = some (excClassObj nm_NoTower q_NoTower C_NoTower NA_NoTower bs_NoTower bm_NoTower true sn_NoTower sub_NoTower ab_NoTower col_NoTower dd_NoTower k0_NoTower k1_NoTower k2_NoTower k3_NoTower k5_NoTower "ValueError.__new__")) (rv_NoTower : PySem.HandSPX.refsVE bm_NoTower = true) (ob_NoTower : oexB K C_NoTower = true) (tI_NoTower : PySem.W.typeIn K (.ref f_NoTower_init) = some (.type "function"))
    (no_NoTower_three : PySem.W.findIn K (.ref C_NoTower) "three" = some none)
    (fl_ground : flB K "ground" [(1, C_Tower)] = true)
    (z_MOST_LOWER : PySem.W.nsIn K mainGlobals "MOST_LOWER" = some (some (.int (16) t_MOST_LOWER)))
    (ob_NoLower : e0B K C_NoLower = true)
    (z_MOST_UPPER : PySem.W.nsIn K mainGlobals "MOST_UPPER" = some (some (.int (9) t_MOST_UPPER)))
    (ob_NoUpper : e0B K C_NoUpper = true)
    (xL_NoCarry : K.lookup C_NoCarry = some (excClassObj nm_NoCarry q_NoCarry C_NoCarry NA_NoCarry bs_NoCarry bm_NoCarry true sn_NoCarry sub_NoCarry ab_NoCarry col_NoCarry dd_NoCarry k0_NoCarry k1_NoCarry k2_NoCarry k3_NoCarry k5_NoCarry "ValueError.__new__")) (rv_NoCarry : PySem.HandSPX.refsVE bm_NoCarry = true) (ob_NoCarry : oexB K C_NoCarry = true) (tI_NoCarry : PySem.W.typeIn K (.ref f_NoCarry_init) = some (.type "function"))
    (no_NoCarry_y : PySem.W.findIn K (.ref C_NoCarry) "y" = some none)
    (no_NoCarry_x : PySem.W.findIn K (.ref C_NoCarry) "x" = some none)
    (z_list : PySem.W.nsIn K mainGlobals "list" = some none)
    (z_MOST_ROUNDS : PySem.W.nsIn K mainGlobals "MOST_ROUNDS" = some (some (.int (7) t_MOST_ROUNDS)))
    (z_MOST_ELEMENTS : PySem.W.nsIn K mainGlobals "MOST_ELEMENTS" = some (some (.int (144) t_MOST_ELEMENTS)))
    (ob_NoRounds : e0B K C_NoRounds = true)
    (z_all : PySem.W.nsIn K mainGlobals "all" = some none)
    (xl_x : xlB K "x" [(23, C_NoCarry)] = true)
    (xl_y : xlB K "y" [(23, C_NoCarry)] = true)
    (z_dict : PySem.W.nsIn K mainGlobals "dict" = some none)
    (xl_three : xlB K "three" [(24, C_NoTower)] = true)
    (hIs : isTab K [(10, C_CarryError), (11, C_NoRounds), (12, C_NoElement), (13, C_NoLower), (14, C_NoUpper), (23, C_NoCarry), (24, C_NoTower), (0, C_Rounds), (2, C_Table), (1, C_Tower)] [(0, C_Rounds)] = true)
    (hCt : ctB K [(10, C_CarryError), (11, C_NoRounds), (12, C_NoElement), (13, C_NoLower), (14, C_NoUpper), (23, C_NoCarry), (24, C_NoTower)] [(13, C_NoLower), (23, C_NoCarry), (24, C_NoTower)] = true)
    (mk_Rounds : PySem.W.makesIn K C_Rounds = true) (kc_Rounds : PySem.W.keepIn K (.ref C_Rounds) = true)
    (mk_Tower : PySem.W.makesIn K C_Tower = true) (kc_Tower : PySem.W.keepIn K (.ref C_Tower) = true)
    (mk_Table : PySem.W.makesIn K C_Table = true) (kc_Table : PySem.W.keepIn K (.ref C_Table) = true)
    (am_Rounds_look_at : PySem.W.findIn K (.ref C_Rounds) "look_at" = some (some (.ref f_Group_look_at)))
    (am_Tower_look_at : PySem.W.findIn K (.ref C_Tower) "look_at" = some (some (.ref f_Group_look_at)))
    (am_Rounds_added : PySem.W.findIn K (.ref C_Rounds) "added" = some (some (.ref f_Group_added)))
    (am_Tower_added : PySem.W.findIn K (.ref C_Tower) "added" = some (some (.ref f_Group_added)))
    (am_Rounds_size : PySem.W.findIn K (.ref C_Rounds) "size" = some (some (.ref f_Group_size)))
    (am_Tower_size : PySem.W.findIn K (.ref C_Tower) "size" = some (some (.ref f_Group_size)))
    (oB : ([C_Rounds, C_Tower, C_Table] : List Addr).all (objB K) = true)
    : LawT P w K q 10 "_law_script" mg fa d_law := by
  have e := hfa.symm.trans (PySem.W.mg_of X G a_law)
  cases e
  letI tn : Tn := ⟨fun P => "", []⟩
  have m_CarryError : mg (cname 10) = some (.ref C_CarryError) := PySem.W.mg_of X G aC_CarryError
  have ca_CarryError : (⟨P, w, K, mg⟩ : GC).ca 10 = C_CarryError := ca_of (G := ⟨P, w, K, mg⟩) m_CarryError
  have m_NoRounds : mg (cname 11) = some (.ref C_NoRounds) := PySem.W.mg_of X G aC_NoRounds
  have ca_NoRounds : (⟨P, w, K, mg⟩ : GC).ca 11 = C_NoRounds := ca_of (G := ⟨P, w, K, mg⟩) m_NoRounds
  have m_NoElement : mg (cname 12) = some (.ref C_NoElement) := PySem.W.mg_of X G aC_NoElement
  have ca_NoElement : (⟨P, w, K, mg⟩ : GC).ca 12 = C_NoElement := ca_of (G := ⟨P, w, K, mg⟩) m_NoElement
  have m_NoLower : mg (cname 13) = some (.ref C_NoLower) := PySem.W.mg_of X G aC_NoLower
  have ca_NoLower : (⟨P, w, K, mg⟩ : GC).ca 13 = C_NoLower := ca_of (G := ⟨P, w, K, mg⟩) m_NoLower
  have m_NoUpper : mg (cname 14) = some (.ref C_NoUpper) := PySem.W.mg_of X G aC_NoUpper
  have ca_NoUpper : (⟨P, w, K, mg⟩ : GC).ca 14 = C_NoUpper := ca_of (G := ⟨P, w, K, mg⟩) m_NoUpper
  have m_NoCarry : mg (cname 23) = some (.ref C_NoCarry) := PySem.W.mg_of X G aC_NoCarry
  have ca_NoCarry : (⟨P, w, K, mg⟩ : GC).ca 23 = C_NoCarry := ca_of (G := ⟨P, w, K, mg⟩) m_NoCarry
  have m_NoTower : mg (cname 24) = some (.ref C_NoTower) := PySem.W.mg_of X G aC_NoTower
  have ca_NoTower : (⟨P, w, K, mg⟩ : GC).ca 24 = C_NoTower := ca_of (G := ⟨P, w, K, mg⟩) m_NoTower
  have m_Group : mg (cname 5) = some (.ref C_Group) := PySem.W.mg_of X G aC_Group
  have ca_Group : (⟨P, w, K, mg⟩ : GC).ca 5 = C_Group := ca_of (G := ⟨P, w, K, mg⟩) m_Group
  have m_Rounds : mg (cname 0) = some (.ref C_Rounds) := PySem.W.mg_of X G aC_Rounds
  have ca_Rounds : (⟨P, w, K, mg⟩ : GC).ca 0 = C_Rounds := ca_of (G := ⟨P, w, K, mg⟩) m_Rounds
  have m_Table : mg (cname 2) = some (.ref C_Table) := PySem.W.mg_of X G aC_Table
  have ca_Table : (⟨P, w, K, mg⟩ : GC).ca 2 = C_Table := ca_of (G := ⟨P, w, K, mg⟩) m_Table
  have m_Tower : mg (cname 1) = some (.ref C_Tower) := PySem.W.mg_of X G aC_Tower
  have ca_Tower : (⟨P, w, K, mg⟩ : GC).ca 1 = C_Tower := ca_of (G := ⟨P, w, K, mg⟩) m_Tower
  have F_q_rounds := fun_mk (st := s_q_rounds) l_q_rounds c_q_rounds k_q_rounds
  have B_q_rounds := F_q_rounds.binds (ps := ["_law_cell_here", "_law_most", "_law_greatest"]) fun _ _ _ _ _ _ us hl => match us, hl with | [_, _, _], _ => rfl
  have F_q_cell := fun_mk (st := s_q_cell) l_q_cell c_q_cell k_q_cell
  have B_q_cell := F_q_cell.binds (ps := ["_law_script", "_law_k"]) fun _ _ _ _ _ _ us hl => match us, hl with | [_, _], _ => rfl
  have F_q_members := fun_mk (st := s_q_members) l_q_members c_q_members k_q_members
  have B_q_members := F_q_members.binds (ps := ["_law_rounds_here"]) fun _ _ _ _ _ _ us hl => match us, hl with | [_], _ => rfl
  have F_q_element := fun_mk (st := s_q_element) l_q_element c_q_element k_q_element
  have B_q_element := F_q_element.binds (ps := ["_law_rounds_here", "_law_cell_here"]) fun _ _ _ _ _ _ us hl => match us, hl with | [_, _], _ => rfl
  have F_q_added := fun_mk (st := s_q_added) l_q_added c_q_added k_q_added
  have B_q_added := F_q_added.binds (ps := ["_law_rounds_here", "_law_x", "_law_y"]) fun _ _ _ _ _ _ us hl => match us, hl with | [_, _, _], _ => rfl
  have F_q_times := fun_mk (st := s_q_times) l_q_times c_q_times k_q_times
  have B_q_times := F_q_times.binds (ps := ["_law_rounds_here", "_law_n", "_law_x"]) fun _ _ _ _ _ _ us hl => match us, hl with | [_, _, _], _ => rfl
  have F_q_table := fun_mk (st := s_q_table) l_q_table c_q_table k_q_table
  have B_q_table := F_q_table.binds (ps := ["_law_lower", "_law_upper", "_law_cells"]) fun _ _ _ _ _ _ us hl => match us, hl with | [_, _, _], _ => rfl
  have F_q_paired := fun_mk (st := s_q_paired) l_q_paired c_q_paired k_q_paired
  have B_q_paired := F_q_paired.binds (ps := ["_law_lower", "_law_upper", "_law_table_here", "_law_i", "_law_j", "_law_a"]) fun _ _ _ _ _ _ us hl => match us, hl with | [_, _, _, _, _, _], _ => rfl
  have F_q_gcd := fun_mk (st := s_q_gcd) l_q_gcd c_q_gcd k_q_gcd
  have B_q_gcd := F_q_gcd.binds (ps := ["_law_one", "_law_other"]) fun _ _ _ _ _ _ us hl => match us, hl with | [_, _], _ => rfl
  have F_q_odd_element := fun_mk (st := s_q_odd_element) l_q_odd_element c_q_odd_element k_q_odd_element
  have B_q_odd_element := F_q_odd_element.binds (ps := ["_law_lower", "_law_one", "_law_other", "_law_cell_here"]) fun _ _ _ _ _ _ us hl => match us, hl with | [_, _, _, _], _ => rfl
  have F_q_ground := fun_mk (st := s_q_ground) l_q_ground c_q_ground k_q_ground
  have B_q_ground := F_q_ground.binds (ps := ["_law_script"]) fun _ _ _ _ _ _ us hl => match us, hl with | [_], _ => rfl
  have F_Rounds_members := fun_mk (st := s_Rounds_members) l_Rounds_members c_Rounds_members k_Rounds_members
  have B_Rounds_members := F_Rounds_members.binds (ps := ["self"]) fun _ _ _ _ _ _ us hl => match us, hl with | [_], _ => rfl
  have F_Tower_members := fun_mk (st := s_Tower_members) l_Tower_members c_Tower_members k_Tower_members
  have B_Tower_members := F_Tower_members.binds (ps := ["self"]) fun _ _ _ _ _ _ us hl => match us, hl with | [_], _ => rfl
  have F_is_whole := fun_mk (st := s_is_whole) l_is_whole c_is_whole k_is_whole
  have B_is_whole := F_is_whole.binds (ps := ["thing"]) fun _ _ _ _ _ _ us hl => match us, hl with | [_], _ => rfl
  have F_Rounds_has := fun_mk (st := s_Rounds_has) l_Rounds_has c_Rounds_has k_Rounds_has
  have B_Rounds_has := F_Rounds_has.binds (ps := ["self", "thing"]) fun _ _ _ _ _ _ us hl => match us, hl with | [_, _], _ => rfl
  have F_Group_look_at := fun_mk (st := s_Group_look_at) l_Group_look_at c_Group_look_at k_Group_look_at
  have B_Group_look_at := F_Group_look_at.binds (ps := ["self", "thing"]) fun _ _ _ _ _ _ us hl => match us, hl with | [_, _], _ => rfl
  have F_Rounds_put := fun_mk (st := s_Rounds_put) l_Rounds_put c_Rounds_put k_Rounds_put
  have B_Rounds_put := F_Rounds_put.binds (ps := ["self", "x", "y"]) fun _ _ _ _ _ _ us hl => match us, hl with | [_, _, _], _ => rfl
  have F_Group_added := fun_mk (st := s_Group_added) l_Group_added c_Group_added k_Group_added
  have B_Group_added := F_Group_added.binds (ps := ["self", "x", "y"]) fun _ _ _ _ _ _ us hl => match us, hl with | [_, _, _], _ => rfl
  have F_Tower_has := fun_mk (st := s_Tower_has) l_Tower_has c_Tower_has k_Tower_has
  have B_Tower_has := F_Tower_has.binds (ps := ["self", "thing"]) fun _ _ _ _ _ _ us hl => match us, hl with | [_, _], _ => rfl
  have F_Table_carry := fun_mk (st := s_Table_carry) l_Table_carry c_Table_carry k_Table_carry
  have B_Table_carry := F_Table_carry.binds (ps := ["self", "x", "y"]) fun _ _ _ _ _ _ us hl => match us, hl with | [_, _, _], _ => rfl
  have F_Tower_put := fun_mk (st := s_Tower_put) l_Tower_put c_Tower_put k_Tower_put
  have B_Tower_put := F_Tower_put.binds (ps := ["self", "x", "y"]) fun _ _ _ _ _ _ us hl => match us, hl with | [_, _, _], _ => rfl
  have F_break_of_three := fun_mk (st := s_break_of_three) l_break_of_three c_break_of_three k_break_of_three
  have B_break_of_three := F_break_of_three.binds (ps := ["table"]) fun _ _ _ _ _ _ us hl => match us, hl with | [_], _ => rfl
  have F_NoTower_init := fun_mk (st := s_NoTower_init) l_NoTower_init c_NoTower_init k_NoTower_init
  have B_NoTower_init := F_NoTower_init.binds (ps := ["self", "three"]) fun _ _ _ _ _ _ us hl => match us, hl with | [_, _], _ => rfl
  have F_Rounds_nought := fun_mk (st := s_Rounds_nought) l_Rounds_nought c_Rounds_nought k_Rounds_nought
  have B_Rounds_nought := F_Rounds_nought.binds (ps := ["self"]) fun _ _ _ _ _ _ us hl => match us, hl with | [_], _ => rfl
  have F_Tower_init := fun_mk (st := s_Tower_init) l_Tower_init c_Tower_init k_Tower_init
  have B_Tower_init := F_Tower_init.binds (ps := ["self", "table"]) fun _ _ _ _ _ _ us hl => match us, hl with | [_, _], _ => rfl
  have F_Group_size := fun_mk (st := s_Group_size) l_Group_size c_Group_size k_Group_size
  have B_Group_size := F_Group_size.binds (ps := ["self"]) fun _ _ _ _ _ _ us hl => match us, hl with | [_], _ => rfl
  have F_Rounds_is_even := fun_mk (st := s_Rounds_is_even) l_Rounds_is_even c_Rounds_is_even k_Rounds_is_even
  have B_Rounds_is_even := F_Rounds_is_even.binds (ps := ["self"]) fun _ _ _ _ _ _ us hl => match us, hl with | [_], _ => rfl
  have F_break_of_two := fun_mk (st := s_break_of_two) l_break_of_two c_break_of_two k_break_of_two
  have B_break_of_two := F_break_of_two.binds (ps := ["table"]) fun _ _ _ _ _ _ us hl => match us, hl with | [_], _ => rfl
  have F_Tower_is_even := fun_mk (st := s_Tower_is_even) l_Tower_is_even c_Tower_is_even k_Tower_is_even
  have B_Tower_is_even := F_Tower_is_even.binds (ps := ["self"]) fun _ _ _ _ _ _ us hl => match us, hl with | [_], _ => rfl
  have F_look_at_groups := fun_mk (st := s_look_at_groups) l_look_at_groups c_look_at_groups k_look_at_groups
  have B_look_at_groups := F_look_at_groups.binds (ps := ["lower", "upper"]) fun _ _ _ _ _ _ us hl => match us, hl with | [_, _], _ => rfl
  have F_NoCarry_init := fun_mk (st := s_NoCarry_init) l_NoCarry_init c_NoCarry_init k_NoCarry_init
  have B_NoCarry_init := F_NoCarry_init.binds (ps := ["self", "x", "y"]) fun _ _ _ _ _ _ us hl => match us, hl with | [_, _, _], _ => rfl
  have F_Table_init := fun_mk (st := s_Table_init) l_Table_init c_Table_init k_Table_init
  have B_Table_init := F_Table_init.binds (ps := ["self", "lower", "upper", "carries"]) fun _ _ _ _ _ _ us hl => match us, hl with | [_, _, _, _], _ => rfl
  have F_are_rounds := fun_mk (st := s_are_rounds) l_are_rounds c_are_rounds k_are_rounds
  have B_are_rounds := F_are_rounds.binds (ps := ["thing"]) fun _ _ _ _ _ _ us hl => match us, hl with | [_], _ => rfl
  have F_Rounds_init := fun_mk (st := s_Rounds_init) l_Rounds_init c_Rounds_init k_Rounds_init
  have B_Rounds_init := F_Rounds_init.binds (ps := ["self", "rounds"]) fun _ _ _ _ _ _ us hl => match us, hl with | [_, _], _ => rfl
  have F_q_whole := fun_mk (st := s_q_whole) l_q_whole c_q_whole k_q_whole
  have B_q_whole := F_q_whole.binds (ps := ["_law_found"]) fun _ _ _ _ _ _ us hl => match us, hl with | [_], _ => rfl
  have F_q_has := fun_mk (st := s_q_has) l_q_has c_q_has k_q_has
  have B_q_has := F_q_has.binds (ps := ["_law_ground_here", "_law_thing"]) fun _ _ _ _ _ _ us hl => match us, hl with | [_, _], _ => rfl
  have F_q_two := fun_mk (st := s_q_two) l_q_two c_q_two k_q_two
  have B_q_two := F_q_two.binds (ps := ["_law_upper", "_law_table_here"]) fun _ _ _ _ _ _ us hl => match us, hl with | [_, _], _ => rfl
  have F_q_asked := fun_mk (st := s_q_asked) l_q_asked c_q_asked k_q_asked
  have B_q_asked := F_q_asked.binds (ps := ["_law_low", "_law_upper", "_law_carries"]) fun _ _ _ _ _ _ us hl => match us, hl with | [_, _, _], _ => rfl
  have F_Table_carries := fun_mk (st := s_Table_carries) l_Table_carries c_Table_carries k_Table_carries
  have B_Table_carries := F_Table_carries.binds (ps := ["self"]) fun _ _ _ _ _ _ us hl => match us, hl with | [_], _ => rfl
  have F_q_put := fun_mk (st := s_q_put) l_q_put c_q_put k_q_put
  have B_q_put := F_q_put.binds (ps := ["_law_ground_here", "_law_one", "_law_other"]) fun _ _ _ _ _ _ us hl => match us, hl with | [_, _, _], _ => rfl
  have F_q_broken := fun_mk (st := s_q_broken) l_q_broken c_q_broken k_q_broken
  have B_q_broken := F_q_broken.binds (ps := ["_law_ground_here", "_law_upper", "_law_carries"]) fun _ _ _ _ _ _ us hl => match us, hl with | [_, _, _], _ => rfl
  have F_q_tower_right := fun_mk (st := s_q_tower_right) l_q_tower_right c_q_tower_right k_q_tower_right
  have B_q_tower_right := F_q_tower_right.binds (ps := ["_law_table_here", "_law_three", "_law_many"]) fun _ _ _ _ _ _ us hl => match us, hl with | [_, _, _], _ => rfl
  have F_law := fun_mk (st := s_law) l_law c_law k_law
  refine ⟨tn, PySem.W.fnOf "law" "law" (defArgs s_law) (defBody s_law) (defScope s_law) .none kV_law dc_law pm_law an_law cd_law ct_law, [], rfl, ?_, fun s u => .of_eq rfl, fun base _ _ hTB => ?_⟩
  · intro t ht
    cases ht
  have hca : ∀ p ∈ ([(10, C_CarryError), (11, C_NoRounds), (12, C_NoElement), (13, C_NoLower), (14, C_NoUpper), (23, C_NoCarry), (24, C_NoTower), (5, C_Group), (0, C_Rounds), (2, C_Table), (1, C_Tower)] : List (Nat × Addr)), (⟨P, w, K, mg⟩ : GC).ca p.1 = p.2 := by
    intro p hp
    simp only [List.mem_cons, List.not_mem_nil, or_false] at hp
    rcases hp with rfl | rfl | rfl | rfl | rfl | rfl | rfl | rfl | rfl | rfl | rfl
    · exact ca_CarryError
    · exact ca_NoRounds
    · exact ca_NoElement
    · exact ca_NoLower
    · exact ca_NoUpper
    · exact ca_NoCarry
    · exact ca_NoTower
    · exact ca_Group
    · exact ca_Rounds
    · exact ca_Table
    · exact ca_Tower
  have O_NoTower : OexC K C_NoTower := oexC_by xL_NoTower rv_NoTower ob_NoTower
  have X_NoTower : ExMA P w K mg base C_NoTower 24 := ⟨m_NoTower, O_NoTower, f_NoTower_init, _, _, exc1_ok (pn := "three") (fn := "three") F_NoTower_init ⟨rfl, rfl, rfl, by decide +kernel, rfl, by decide +kernel, by decide +kernel⟩ O_NoTower no_NoTower_three (fun X hN hs => pss_one (ps_ost (pe_var (i := 0) (by rw [hN]; rfl) (by rw [hs]; exact Or.inl rfl)) (pe_var (i := 1) (by rw [hN]; rfl) (by rw [hs]; exact Or.inl rfl)))), a_NoTower_init, tI_NoTower, B_NoTower_init⟩
  have O_NoCarry : OexC K C_NoCarry := oexC_by xL_NoCarry rv_NoCarry ob_NoCarry
  have X_NoCarry : ExMA P w K mg base C_NoCarry 23 := ⟨m_NoCarry, O_NoCarry, f_NoCarry_init, _, _, exc2_ok (pn := "x") (qn := "y") (fn := "x") (gn := "y") F_NoCarry_init ⟨rfl, rfl, rfl, by decide +kernel, rfl, by decide +kernel, by decide +kernel⟩ O_NoCarry no_NoCarry_x no_NoCarry_y (fun X hN hs => pss_cons (ps_ost (pe_var (i := 0) (by rw [hN]; rfl) (by rw [hs]; exact Or.inl rfl)) (pe_var (i := 1) (by rw [hN]; rfl) (by rw [hs]; exact Or.inl rfl))) (pss_one (ps_ost (pe_var (i := 0) (by rw [hN]; rfl) (by rw [hs]; exact Or.inl rfl)) (pe_var (i := 2) (by rw [hN]; rfl) (by rw [hs]; exact Or.inl rfl))))), a_NoCarry_init, tI_NoCarry, B_NoCarry_init⟩
  have T : Txt P w K mg base := {
      zz := trivial,
      n_range := PySem.W.mg_none_of X G z_range,
      n_min := PySem.W.mg_none_of X G z_min,
      n_tuple := PySem.W.mg_none_of X G z_tuple,
      n_len := PySem.W.mg_none_of X G z_len,
      n_sum := PySem.W.mg_none_of X G z_sum,
      n_enumerate := PySem.W.mg_none_of X G z_enumerate,
      c_Tower := cg_by m_Tower,
      f_lower := fldM_by (fun p hp => hca p (by simp only [List.mem_cons, List.not_mem_nil, or_false] at hp ⊢; rcases hp with rfl <;> simp)) fl_lower,
      f_upper := fldM_by (fun p hp => hca p (by simp only [List.mem_cons, List.not_mem_nil, or_false] at hp ⊢; rcases hp with rfl <;> simp)) fl_upper,
      f_rounds := fldM_by (fun p hp => hca p (by simp only [List.mem_cons, List.not_mem_nil, or_false] at hp ⊢; rcases hp with rfl <;> simp)) fl_rounds,
      f_table := fldM_by (fun p hp => hca p (by simp only [List.mem_cons, List.not_mem_nil, or_false] at hp ⊢; rcases hp with rfl <;> simp)) fl_table,
      n_isinstance := PySem.W.mg_none_of X G z_isinstance,
      n_zip := PySem.W.mg_none_of X G z_zip,
      n_int := PySem.W.mg_none_of X G z_int,
      n_bool := PySem.W.mg_none_of X G z_bool,
      c_NoElement := cg_by m_NoElement,
      e_NoElement := by rw [ca_NoElement]; exact exM0_by m_NoElement ob_NoElement,
      f_kept := fldM_by (fun p hp => hca p (by simp only [List.mem_cons, List.not_mem_nil, or_false] at hp ⊢; rcases hp with rfl <;> simp)) fl_kept,
      c_NoTower := cg_by m_NoTower,
      e_NoTower := by rw [ca_NoTower]; exact X_NoTower,
      cl_Tower_table := clM_by (fun p hp => hca p (by simp only [List.mem_cons, List.not_mem_nil, or_false] at hp ⊢; rcases hp with rfl <;> simp)) fl_table (by simp),
      f_ground := fldM_by (fun p hp => hca p (by simp only [List.mem_cons, List.not_mem_nil, or_false] at hp ⊢; rcases hp with rfl <;> simp)) fl_ground,
      cl_Tower_ground := clM_by (fun p hp => hca p (by simp only [List.mem_cons, List.not_mem_nil, or_false] at hp ⊢; rcases hp with rfl <;> simp)) fl_ground (by simp),
      c_Table := cg_by m_Table,
      g_MOST_LOWER := ⟨_, PySem.W.mg_of X G z_MOST_LOWER⟩,
      c_NoLower := cg_by m_NoLower,
      e_NoLower := by rw [ca_NoLower]; exact exM0_by m_NoLower ob_NoLower,
      c_Rounds := cg_by m_Rounds,
      g_MOST_UPPER := ⟨_, PySem.W.mg_of X G z_MOST_UPPER⟩,
      c_NoUpper := cg_by m_NoUpper,
      e_NoUpper := by rw [ca_NoUpper]; exact exM0_by m_NoUpper ob_NoUpper,
      cl_Table_lower := clM_by (fun p hp => hca p (by simp only [List.mem_cons, List.not_mem_nil, or_false] at hp ⊢; rcases hp with rfl <;> simp)) fl_lower (by simp),
      cl_Table_upper := clM_by (fun p hp => hca p (by simp only [List.mem_cons, List.not_mem_nil, or_false] at hp ⊢; rcases hp with rfl <;> simp)) fl_upper (by simp),
      cl_Table_kept := clM_by (fun p hp => hca p (by simp only [List.mem_cons, List.not_mem_nil, or_false] at hp ⊢; rcases hp with rfl <;> simp)) fl_kept (by simp),
      c_NoCarry := cg_by m_NoCarry,
      e_NoCarry := by rw [ca_NoCarry]; exact X_NoCarry,
      n_list := PySem.W.mg_none_of X G z_list,
      g_MOST_ROUNDS := ⟨_, PySem.W.mg_of X G z_MOST_ROUNDS⟩,
      g_MOST_ELEMENTS := ⟨_, PySem.W.mg_of X G z_MOST_ELEMENTS⟩,
      c_NoRounds := cg_by m_NoRounds,
      e_NoRounds := by rw [ca_NoRounds]; exact exM0_by m_NoRounds ob_NoRounds,
      cl_Rounds_rounds := clM_by (fun p hp => hca p (by simp only [List.mem_cons, List.not_mem_nil, or_false] at hp ⊢; rcases hp with rfl <;> simp)) fl_rounds (by simp),
      n_all := PySem.W.mg_none_of X G z_all,
      x_x := fldX_by (fun p hp => hca p (by simp only [List.mem_cons, List.not_mem_nil, or_false] at hp ⊢; rcases hp with rfl <;> simp)) xl_x,
      x_y := fldX_by (fun p hp => hca p (by simp only [List.mem_cons, List.not_mem_nil, or_false] at hp ⊢; rcases hp with rfl <;> simp)) xl_y,
      n_dict := PySem.W.mg_none_of X G z_dict,
      x_three := fldX_by (fun p hp => hca p (by simp only [List.mem_cons, List.not_mem_nil, or_false] at hp ⊢; rcases hp with rfl <;> simp)) xl_three,
      isM := isM_of (fun p hp => hca p (by simp only [List.mem_cons, List.not_mem_nil, or_false] at hp ⊢; rcases hp with rfl | rfl | rfl | rfl | rfl | rfl | rfl | rfl | rfl | rfl <;> simp)) (fun p hp => hca p (by simp only [List.mem_cons, List.not_mem_nil, or_false] at hp ⊢; rcases hp with rfl <;> simp)) hIs,
      ctM := ctM_of (fun p hp => hca p (by simp only [List.mem_cons, List.not_mem_nil, or_false] at hp ⊢; rcases hp with rfl | rfl | rfl | rfl | rfl | rfl | rfl <;> simp)) (fun p hp => hca p (by simp only [List.mem_cons, List.not_mem_nil, or_false] at hp ⊢; rcases hp with rfl | rfl | rfl <;> simp)) hCt }
  have G_q_rounds : FnOk P w K mg base (L2.CX P w) 1 f_q_rounds _ ["_law_cell_here", "_law_most", "_law_greatest"] (spM ⟨P, w, K, mg⟩ .S d_q_rounds) := fn_ok F_q_rounds sc_q_rounds (fun cdv A outer s H E hr => b_q_rounds T cdv A outer s H E hr)
  have M_q_rounds : FnM P w K mg base 1 "_law_rounds" .S d_q_rounds := ⟨f_q_rounds, _, _, G_q_rounds, PySem.W.mg_of X G a_q_rounds, k_q_rounds, B_q_rounds⟩
  have G_q_cell : FnOk P w K mg base (L2.CX P w) 1 f_q_cell _ ["_law_script", "_law_k"] (spM ⟨P, w, K, mg⟩ .S d_q_cell) := fn_ok F_q_cell sc_q_cell (fun cdv A outer s H E hr => b_q_cell T cdv A outer s H E hr)
  have M_q_cell : FnM P w K mg base 1 "_law_cell" .S d_q_cell := ⟨f_q_cell, _, _, G_q_cell, PySem.W.mg_of X G a_q_cell, k_q_cell, B_q_cell⟩
  have G_q_members : FnOk P w K mg base (L2.CX P w) 1 f_q_members _ ["_law_rounds_here"] (spM ⟨P, w, K, mg⟩ .S d_q_members) := fn_ok F_q_members sc_q_members (fun cdv A outer s H E hr => b_q_members T cdv A outer s H E hr)
  have M_q_members : FnM P w K mg base 1 "_law_members" .S d_q_members := ⟨f_q_members, _, _, G_q_members, PySem.W.mg_of X G a_q_members, k_q_members, B_q_members⟩
  have G_q_element : FnOk P w K mg base (L2.CX P w) 1 f_q_element _ ["_law_rounds_here", "_law_cell_here"] (spM ⟨P, w, K, mg⟩ .S d_q_element) := fn_ok F_q_element sc_q_element (fun cdv A outer s H E hr => b_q_element T cdv A outer s H E hr)
  have M_q_element : FnM P w K mg base 1 "_law_element" .S d_q_element := ⟨f_q_element, _, _, G_q_element, PySem.W.mg_of X G a_q_element, k_q_element, B_q_element⟩
  have G_q_added : FnOk P w K mg base (L2.CX P w) 1 f_q_added _ ["_law_rounds_here", "_law_x", "_law_y"] (spM ⟨P, w, K, mg⟩ .S d_q_added) := fn_ok F_q_added sc_q_added (fun cdv A outer s H E hr => b_q_added T cdv A outer s H E hr)
  have M_q_added : FnM P w K mg base 1 "_law_added" .S d_q_added := ⟨f_q_added, _, _, G_q_added, PySem.W.mg_of X G a_q_added, k_q_added, B_q_added⟩
  have G_q_times : FnOk P w K mg base (L2.CX P w) 1 f_q_times _ ["_law_rounds_here", "_law_n", "_law_x"] (spM ⟨P, w, K, mg⟩ .S d_q_times) := fn_ok F_q_times sc_q_times (fun cdv A outer s H E hr => b_q_times T cdv A outer s H E hr)
  have M_q_times : FnM P w K mg base 1 "_law_times" .S d_q_times := ⟨f_q_times, _, _, G_q_times, PySem.W.mg_of X G a_q_times, k_q_times, B_q_times⟩
  have G_q_table : FnOk P w K mg base (L2.CX P w) 2 f_q_table _ ["_law_lower", "_law_upper", "_law_cells"] (spM ⟨P, w, K, mg⟩ .S d_q_table) := fn_ok F_q_table sc_q_table (fun cdv A outer s H E hr => b_q_table T M_q_members M_q_element M_q_added M_q_times cdv A outer s H E hr)
  have M_q_table : FnM P w K mg base 2 "_law_table" .S d_q_table := ⟨f_q_table, _, _, G_q_table, PySem.W.mg_of X G a_q_table, k_q_table, B_q_table⟩
  have G_q_paired : FnOk P w K mg base (L2.CX P w) 2 f_q_paired _ ["_law_lower", "_law_upper", "_law_table_here", "_law_i", "_law_j", "_law_a"] (spM ⟨P, w, K, mg⟩ .S d_q_paired) := fn_ok F_q_paired sc_q_paired (fun cdv A outer s H E hr => b_q_paired T M_q_added M_q_times cdv A outer s H E hr)
  have M_q_paired : FnM P w K mg base 2 "_law_paired" .S d_q_paired := ⟨f_q_paired, _, _, G_q_paired, PySem.W.mg_of X G a_q_paired, k_q_paired, B_q_paired⟩
  have G_q_gcd : FnOk P w K mg base (L2.CX P w) 1 f_q_gcd _ ["_law_one", "_law_other"] (spM ⟨P, w, K, mg⟩ .S d_q_gcd) := fn_ok F_q_gcd sc_q_gcd (fun cdv A outer s H E hr => b_q_gcd T cdv A outer s H E hr)
  have M_q_gcd : FnM P w K mg base 1 "_law_gcd" .S d_q_gcd := ⟨f_q_gcd, _, _, G_q_gcd, PySem.W.mg_of X G a_q_gcd, k_q_gcd, B_q_gcd⟩
  have G_q_odd_element : FnOk P w K mg base (L2.CX P w) 2 f_q_odd_element _ ["_law_lower", "_law_one", "_law_other", "_law_cell_here"] (spM ⟨P, w, K, mg⟩ .S d_q_odd_element) := fn_ok F_q_odd_element sc_q_odd_element (fun cdv A outer s H E hr => b_q_odd_element T M_q_gcd cdv A outer s H E hr)
  have M_q_odd_element : FnM P w K mg base 2 "_law_odd_element" .S d_q_odd_element := ⟨f_q_odd_element, _, _, G_q_odd_element, PySem.W.mg_of X G a_q_odd_element, k_q_odd_element, B_q_odd_element⟩
  have G_q_ground : FnOk P w K mg base (L2.CX P w) 3 f_q_ground _ ["_law_script"] (spM ⟨P, w, K, mg⟩ .S d_q_ground) := fn_ok F_q_ground sc_q_ground (fun cdv A outer s H E hr => b_q_ground T M_q_rounds M_q_cell M_q_table M_q_paired M_q_odd_element cdv A outer s H E hr)
  have M_q_ground : FnM P w K mg base 3 "_law_ground" .S d_q_ground := ⟨f_q_ground, _, _, G_q_ground, PySem.W.mg_of X G a_q_ground, k_q_ground, B_q_ground⟩
  have G_Rounds_members : FnOk P w K mg base (L2.CX P w) 1 f_Rounds_members _ ["self"] (spM ⟨P, w, K, mg⟩ .S d_Rounds_members) := fn_ok F_Rounds_members sc_Rounds_members (fun cdv A outer s H E hr => b_Rounds_members T cdv A outer s H E hr)
  have MT_members : ∀ c g, mt_members c = some g → MtM P w K mg base 1 "members" c .S g := by
    intro c g h
    unfold mt_members at h
    split at h
    · rename_i hc; subst hc; cases h
      refine ⟨⟨f_Rounds_members, _, _, G_Rounds_members.mono (by decide), (by rw [ca_Rounds]; exact ⟨a_Rounds_members, i_Rounds_members, k_Rounds_members⟩), B_Rounds_members⟩, (by rw [ca_Rounds]; exact (objB_ok (List.all_eq_true.mp oB C_Rounds (by simp))).cl), by decide +kernel⟩
    · cases h
  have G_Tower_members : FnOk P w K mg base (L2.CX P w) 2 f_Tower_members _ ["self"] (spM ⟨P, w, K, mg⟩ .S d_Tower_members) := fn_ok F_Tower_members sc_Tower_members (fun cdv A outer s H E hr => b_Tower_members T MT_members cdv A outer s H E hr)
  have MT_members_T : ∀ c g, mt_members_T c = some g → MtM P w K mg base 2 "members" c .S g := by
    intro c g h
    unfold mt_members_T at h
    split at h
    · rename_i hc; subst hc; cases h
      refine ⟨⟨f_Rounds_members, _, _, G_Rounds_members.mono (by decide), (by rw [ca_Rounds]; exact ⟨a_Rounds_members, i_Rounds_members, k_Rounds_members⟩), B_Rounds_members⟩, (by rw [ca_Rounds]; exact (objB_ok (List.all_eq_true.mp oB C_Rounds (by simp))).cl), by decide +kernel⟩
    split at h
    · rename_i hc; subst hc; cases h
      refine ⟨⟨f_Tower_members, _, _, G_Tower_members.mono (by decide), (by rw [ca_Tower]; exact ⟨a_Tower_members, i_Tower_members, k_Tower_members⟩), B_Tower_members⟩, (by rw [ca_Tower]; exact (objB_ok (List.all_eq_true.mp oB C_Tower (by simp))).cl), by decide +kernel⟩
    · cases h
  have G_is_whole : FnOk P w K mg base (L2.CX P w) 1 f_is_whole _ ["thing"] (spM ⟨P, w, K, mg⟩ .S d_is_whole) := fn_ok F_is_whole sc_is_whole (fun cdv A outer s H E hr => b_is_whole T cdv A outer s H E hr)
  have M_is_whole : FnM P w K mg base 1 "is_whole" .S d_is_whole := ⟨f_is_whole, _, _, G_is_whole, PySem.W.mg_of X G a_is_whole, k_is_whole, B_is_whole⟩
  have G_Rounds_has : FnOk P w K mg base (L2.CX P w) 2 f_Rounds_has _ ["self", "thing"] (spM ⟨P, w, K, mg⟩ .S d_Rounds_has) := fn_ok F_Rounds_has sc_Rounds_has (fun cdv A outer s H E hr => b_Rounds_has T M_is_whole cdv A outer s H E hr)
  have MT_has : ∀ c g, mt_has c = some g → MtM P w K mg base 2 "has" c .S g := by
    intro c g h
    unfold mt_has at h
    split at h
    · rename_i hc; subst hc; cases h
      refine ⟨⟨f_Rounds_has, _, _, G_Rounds_has.mono (by decide), (by rw [ca_Rounds]; exact ⟨a_Rounds_has, i_Rounds_has, k_Rounds_has⟩), B_Rounds_has⟩, (by rw [ca_Rounds]; exact (objB_ok (List.all_eq_true.mp oB C_Rounds (by simp))).cl), by decide +kernel⟩
    · cases h
  have G_Group_look_at : FnOk P w K mg base (L2.CX P w) 3 f_Group_look_at _ ["self", "thing"] (spM ⟨P, w, K, mg⟩ .S d_Group_look_at) := fn_ok F_Group_look_at sc_Group_look_at (fun cdv A outer s H E hr => b_Group_look_at T MT_has cdv A outer s H E hr)
  have MT_look_at : ∀ c g, mt_look_at c = some g → MtM P w K mg base 3 "look_at" c .S g := by
    intro c g h
    unfold mt_look_at at h
    split at h
    · rename_i hc; subst hc; cases h
      refine ⟨⟨f_Group_look_at, _, _, G_Group_look_at.mono (by decide), (by rw [ca_Rounds]; exact ⟨am_Rounds_look_at, i_Group_look_at, k_Group_look_at⟩), B_Group_look_at⟩, (by rw [ca_Rounds]; exact (objB_ok (List.all_eq_true.mp oB C_Rounds (by simp))).cl), by decide +kernel⟩
    · cases h
  have G_Rounds_put : FnOk P w K mg base (L2.CX P w) 1 f_Rounds_put _ ["self", "x", "y"] (spM ⟨P, w, K, mg⟩ .S d_Rounds_put) := fn_ok F_Rounds_put sc_Rounds_put (fun cdv A outer s H E hr => b_Rounds_put T cdv A outer s H E hr)
  have MT_put : ∀ c g, mt_put c = some g → MtM P w K mg base 1 "put" c .S g := by
    intro c g h
    unfold mt_put at h
    split at h
    · rename_i hc; subst hc; cases h
      refine ⟨⟨f_Rounds_put, _, _, G_Rounds_put.mono (by decide), (by rw [ca_Rounds]; exact ⟨a_Rounds_put, i_Rounds_put, k_Rounds_put⟩), B_Rounds_put⟩, (by rw [ca_Rounds]; exact (objB_ok (List.all_eq_true.mp oB C_Rounds (by simp))).cl), by decide +kernel⟩
    · cases h
  have G_Group_added : FnOk P w K mg base (L2.CX P w) 4 f_Group_added _ ["self", "x", "y"] (spM ⟨P, w, K, mg⟩ .S d_Group_added) := fn_ok F_Group_added sc_Group_added (fun cdv A outer s H E hr => b_Group_added T MT_look_at MT_put cdv A outer s H E hr)
  have G_Tower_has : FnOk P w K mg base (L2.CX P w) 3 f_Tower_has _ ["self", "thing"] (spM ⟨P, w, K, mg⟩ .S d_Tower_has) := fn_ok F_Tower_has sc_Tower_has (fun cdv A outer s H E hr => b_Tower_has T MT_has cdv A outer s H E hr)
  have MT_has_T : ∀ c g, mt_has_T c = some g → MtM P w K mg base 3 "has" c .S g := by
    intro c g h
    unfold mt_has_T at h
    split at h
    · rename_i hc; subst hc; cases h
      refine ⟨⟨f_Rounds_has, _, _, G_Rounds_has.mono (by decide), (by rw [ca_Rounds]; exact ⟨a_Rounds_has, i_Rounds_has, k_Rounds_has⟩), B_Rounds_has⟩, (by rw [ca_Rounds]; exact (objB_ok (List.all_eq_true.mp oB C_Rounds (by simp))).cl), by decide +kernel⟩
    split at h
    · rename_i hc; subst hc; cases h
      refine ⟨⟨f_Tower_has, _, _, G_Tower_has.mono (by decide), (by rw [ca_Tower]; exact ⟨a_Tower_has, i_Tower_has, k_Tower_has⟩), B_Tower_has⟩, (by rw [ca_Tower]; exact (objB_ok (List.all_eq_true.mp oB C_Tower (by simp))).cl), by decide +kernel⟩
    · cases h
  have G_Group_look_at_1 : FnOk P w K mg base (L2.CX P w) 4 f_Group_look_at _ ["self", "thing"] (spM ⟨P, w, K, mg⟩ .S d_Group_look_at_1) := fn_ok F_Group_look_at sc_Group_look_at (fun cdv A outer s H E hr => b_Group_look_at_1 T MT_has_T cdv A outer s H E hr)
  have MT_look_at_T : ∀ c g, mt_look_at_T c = some g → MtM P w K mg base 4 "look_at" c .S g := by
    intro c g h
    unfold mt_look_at_T at h
    split at h
    · rename_i hc; subst hc; cases h
      refine ⟨⟨f_Group_look_at, _, _, G_Group_look_at.mono (by decide), (by rw [ca_Rounds]; exact ⟨am_Rounds_look_at, i_Group_look_at, k_Group_look_at⟩), B_Group_look_at⟩, (by rw [ca_Rounds]; exact (objB_ok (List.all_eq_true.mp oB C_Rounds (by simp))).cl), by decide +kernel⟩
    split at h
    · rename_i hc; subst hc; cases h
      refine ⟨⟨f_Group_look_at, _, _, G_Group_look_at_1.mono (by decide), (by rw [ca_Tower]; exact ⟨am_Tower_look_at, i_Group_look_at, k_Group_look_at⟩), B_Group_look_at⟩, (by rw [ca_Tower]; exact (objB_ok (List.all_eq_true.mp oB C_Tower (by simp))).cl), by decide +kernel⟩
    · cases h
  have G_Table_carry : FnOk P w K mg base (L2.CX P w) 3 f_Table_carry _ ["self", "x", "y"] (spM ⟨P, w, K, mg⟩ .S d_Table_carry) := fn_ok F_Table_carry sc_Table_carry (fun cdv A outer s H E hr => b_Table_carry T MT_has cdv A outer s H E hr)
  have MT_carry : ∀ c g, mt_carry c = some g → MtM P w K mg base 3 "carry" c .S g := by
    intro c g h
    unfold mt_carry at h
    split at h
    · rename_i hc; subst hc; cases h
      refine ⟨⟨f_Table_carry, _, _, G_Table_carry.mono (by decide), (by rw [ca_Table]; exact ⟨a_Table_carry, i_Table_carry, k_Table_carry⟩), B_Table_carry⟩, (by rw [ca_Table]; exact (objB_ok (List.all_eq_true.mp oB C_Table (by simp))).cl), by decide +kernel⟩
    · cases h
  have G_Tower_put : FnOk P w K mg base (L2.CX P w) 4 f_Tower_put _ ["self", "x", "y"] (spM ⟨P, w, K, mg⟩ .S d_Tower_put) := fn_ok F_Tower_put sc_Tower_put (fun cdv A outer s H E hr => b_Tower_put T MT_carry MT_put cdv A outer s H E hr)
  have MT_put_T : ∀ c g, mt_put_T c = some g → MtM P w K mg base 4 "put" c .S g := by
    intro c g h
    unfold mt_put_T at h
    split at h
    · rename_i hc; subst hc; cases h
      refine ⟨⟨f_Rounds_put, _, _, G_Rounds_put.mono (by decide), (by rw [ca_Rounds]; exact ⟨a_Rounds_put, i_Rounds_put, k_Rounds_put⟩), B_Rounds_put⟩, (by rw [ca_Rounds]; exact (objB_ok (List.all_eq_true.mp oB C_Rounds (by simp))).cl), by decide +kernel⟩
    split at h
    · rename_i hc; subst hc; cases h
      refine ⟨⟨f_Tower_put, _, _, G_Tower_put.mono (by decide), (by rw [ca_Tower]; exact ⟨a_Tower_put, i_Tower_put, k_Tower_put⟩), B_Tower_put⟩, (by rw [ca_Tower]; exact (objB_ok (List.all_eq_true.mp oB C_Tower (by simp))).cl), by decide +kernel⟩
    · cases h
  have G_Group_added_1 : FnOk P w K mg base (L2.CX P w) 5 f_Group_added _ ["self", "x", "y"] (spM ⟨P, w, K, mg⟩ .S d_Group_added_1) := fn_ok F_Group_added sc_Group_added (fun cdv A outer s H E hr => b_Group_added_1 T MT_look_at_T MT_put_T cdv A outer s H E hr)
  have MT_added_T : ∀ c g, mt_added_T c = some g → MtM P w K mg base 5 "added" c .S g := by
    intro c g h
    unfold mt_added_T at h
    split at h
    · rename_i hc; subst hc; cases h
      refine ⟨⟨f_Group_added, _, _, G_Group_added.mono (by decide), (by rw [ca_Rounds]; exact ⟨am_Rounds_added, i_Group_added, k_Group_added⟩), B_Group_added⟩, (by rw [ca_Rounds]; exact (objB_ok (List.all_eq_true.mp oB C_Rounds (by simp))).cl), by decide +kernel⟩
    split at h
    · rename_i hc; subst hc; cases h
      refine ⟨⟨f_Group_added, _, _, G_Group_added_1.mono (by decide), (by rw [ca_Tower]; exact ⟨am_Tower_added, i_Group_added, k_Group_added⟩), B_Group_added⟩, (by rw [ca_Tower]; exact (objB_ok (List.all_eq_true.mp oB C_Tower (by simp))).cl), by decide +kernel⟩
    · cases h
  have G_break_of_three : FnOk P w K mg base (L2.CX P w) 6 f_break_of_three _ ["table"] (spM ⟨P, w, K, mg⟩ .S d_break_of_three) := fn_ok F_break_of_three sc_break_of_three (fun cdv A outer s H E hr => b_break_of_three T MT_members_T MT_added_T MT_carry cdv A outer s H E hr)
  have M_break_of_three : FnM P w K mg base 6 "break_of_three" .S d_break_of_three := ⟨f_break_of_three, _, _, G_break_of_three, PySem.W.mg_of X G a_break_of_three, k_break_of_three, B_break_of_three⟩
  have G_Rounds_nought : FnOk P w K mg base (L2.CX P w) 1 f_Rounds_nought _ ["self"] (spM ⟨P, w, K, mg⟩ .S d_Rounds_nought) := fn_ok F_Rounds_nought sc_Rounds_nought (fun cdv A outer s H E hr => b_Rounds_nought T cdv A outer s H E hr)
  have MT_nought : ∀ c g, mt_nought c = some g → MtM P w K mg base 1 "nought" c .S g := by
    intro c g h
    unfold mt_nought at h
    split at h
    · rename_i hc; subst hc; cases h
      refine ⟨⟨f_Rounds_nought, _, _, G_Rounds_nought.mono (by decide), (by rw [ca_Rounds]; exact ⟨a_Rounds_nought, i_Rounds_nought, k_Rounds_nought⟩), B_Rounds_nought⟩, (by rw [ca_Rounds]; exact (objB_ok (List.all_eq_true.mp oB C_Rounds (by simp))).cl), by decide +kernel⟩
    · cases h
  have G_Tower_init := fn_okI (P := P) (w := w) (mg := mg) (base := base) (c := 1) (g := e_Tower_init) F_Tower_init sc_Tower_init (by decide) (fun cdv A outer s H E x hr => b_Tower_init T M_break_of_three MT_carry MT_nought cdv A outer s H E x hr)
  have MK_Tower : MkM P w K mg base 7 1 d_Tower_init := ⟨f_Tower_init, _, _, G_Tower_init, (by rw [ca_Tower]; exact ⟨mk_Tower, a_Tower_init, i_Tower_init, kc_Tower⟩), cg_by m_Tower, B_Tower_init⟩
  have G_Group_size : FnOk P w K mg base (L2.CX P w) 2 f_Group_size _ ["self"] (spM ⟨P, w, K, mg⟩ .S d_Group_size) := fn_ok F_Group_size sc_Group_size (fun cdv A outer s H E hr => b_Group_size T MT_members cdv A outer s H E hr)
  have G_Group_size_1 : FnOk P w K mg base (L2.CX P w) 3 f_Group_size _ ["self"] (spM ⟨P, w, K, mg⟩ .S d_Group_size_1) := fn_ok F_Group_size sc_Group_size (fun cdv A outer s H E hr => b_Group_size_1 T MT_members_T cdv A outer s H E hr)
  have MT_size_T : ∀ c g, mt_size_T c = some g → MtM P w K mg base 3 "size" c .S g := by
    intro c g h
    unfold mt_size_T at h
    split at h
    · rename_i hc; subst hc; cases h
      refine ⟨⟨f_Group_size, _, _, G_Group_size.mono (by decide), (by rw [ca_Rounds]; exact ⟨am_Rounds_size, i_Group_size, k_Group_size⟩), B_Group_size⟩, (by rw [ca_Rounds]; exact (objB_ok (List.all_eq_true.mp oB C_Rounds (by simp))).cl), by decide +kernel⟩
    split at h
    · rename_i hc; subst hc; cases h
      refine ⟨⟨f_Group_size, _, _, G_Group_size_1.mono (by decide), (by rw [ca_Tower]; exact ⟨am_Tower_size, i_Group_size, k_Group_size⟩), B_Group_size⟩, (by rw [ca_Tower]; exact (objB_ok (List.all_eq_true.mp oB C_Tower (by simp))).cl), by decide +kernel⟩
    · cases h
  have G_Rounds_is_even : FnOk P w K mg base (L2.CX P w) 1 f_Rounds_is_even _ ["self"] (spM ⟨P, w, K, mg⟩ .S d_Rounds_is_even) := fn_ok F_Rounds_is_even sc_Rounds_is_even (fun cdv A outer s H E hr => b_Rounds_is_even T cdv A outer s H E hr)
  have G_break_of_two : FnOk P w K mg base (L2.CX P w) 4 f_break_of_two _ ["table"] (spM ⟨P, w, K, mg⟩ .S d_break_of_two) := fn_ok F_break_of_two sc_break_of_two (fun cdv A outer s H E hr => b_break_of_two T MT_members MT_carry cdv A outer s H E hr)
  have M_break_of_two : FnM P w K mg base 4 "break_of_two" .S d_break_of_two := ⟨f_break_of_two, _, _, G_break_of_two, PySem.W.mg_of X G a_break_of_two, k_break_of_two, B_break_of_two⟩
  have G_Tower_is_even : FnOk P w K mg base (L2.CX P w) 5 f_Tower_is_even _ ["self"] (spM ⟨P, w, K, mg⟩ .S d_Tower_is_even) := fn_ok F_Tower_is_even sc_Tower_is_even (fun cdv A outer s H E hr => b_Tower_is_even T M_break_of_two cdv A outer s H E hr)
  have MT_is_even_T : ∀ c g, mt_is_even_T c = some g → MtM P w K mg base 5 "is_even" c .S g := by
    intro c g h
    unfold mt_is_even_T at h
    split at h
    · rename_i hc; subst hc; cases h
      refine ⟨⟨f_Rounds_is_even, _, _, G_Rounds_is_even.mono (by decide), (by rw [ca_Rounds]; exact ⟨a_Rounds_is_even, i_Rounds_is_even, k_Rounds_is_even⟩), B_Rounds_is_even⟩, (by rw [ca_Rounds]; exact (objB_ok (List.all_eq_true.mp oB C_Rounds (by simp))).cl), by decide +kernel⟩
    split at h
    · rename_i hc; subst hc; cases h
      refine ⟨⟨f_Tower_is_even, _, _, G_Tower_is_even.mono (by decide), (by rw [ca_Tower]; exact ⟨a_Tower_is_even, i_Tower_is_even, k_Tower_is_even⟩), B_Tower_is_even⟩, (by rw [ca_Tower]; exact (objB_ok (List.all_eq_true.mp oB C_Tower (by simp))).cl), by decide +kernel⟩
    · cases h
  have G_look_at_groups : FnOk P w K mg base (L2.CX P w) 6 f_look_at_groups _ ["lower", "upper"] (spM ⟨P, w, K, mg⟩ .S d_look_at_groups) := fn_ok F_look_at_groups sc_look_at_groups (fun cdv A outer s H E hr => b_look_at_groups T MT_size_T MT_is_even_T cdv A outer s H E hr)
  have M_look_at_groups : FnM P w K mg base 6 "look_at_groups" .S d_look_at_groups := ⟨f_look_at_groups, _, _, G_look_at_groups, PySem.W.mg_of X G a_look_at_groups, k_look_at_groups, B_look_at_groups⟩
  have G_Table_init := fn_okI (P := P) (w := w) (mg := mg) (base := base) (c := 2) (g := e_Table_init) F_Table_init sc_Table_init (by decide) (fun cdv A outer s H E x hr => b_Table_init T M_look_at_groups MT_members_T MT_has_T cdv A outer s H E x hr)
  have MK_Table : MkM P w K mg base 7 2 d_Table_init := ⟨f_Table_init, _, _, G_Table_init, (by rw [ca_Table]; exact ⟨mk_Table, a_Table_init, i_Table_init, kc_Table⟩), cg_by m_Table, B_Table_init⟩
  have G_are_rounds : FnOk P w K mg base (L2.CX P w) 2 f_are_rounds _ ["thing"] (spM ⟨P, w, K, mg⟩ .S d_are_rounds) := fn_ok F_are_rounds sc_are_rounds (fun cdv A outer s H E hr => b_are_rounds T M_is_whole cdv A outer s H E hr)
  have M_are_rounds : FnM P w K mg base 2 "are_rounds" .S d_are_rounds := ⟨f_are_rounds, _, _, G_are_rounds, PySem.W.mg_of X G a_are_rounds, k_are_rounds, B_are_rounds⟩
  have G_Rounds_init := fn_okI (P := P) (w := w) (mg := mg) (base := base) (c := 0) (g := e_Rounds_init) F_Rounds_init sc_Rounds_init (by decide) (fun cdv A outer s H E x hr => b_Rounds_init T M_are_rounds cdv A outer s H E x hr)
  have MK_Rounds : MkM P w K mg base 3 0 d_Rounds_init := ⟨f_Rounds_init, _, _, G_Rounds_init, (by rw [ca_Rounds]; exact ⟨mk_Rounds, a_Rounds_init, i_Rounds_init, kc_Rounds⟩), cg_by m_Rounds, B_Rounds_init⟩
  have G_q_whole : FnOk P w K mg base (L2.CX P w) 1 f_q_whole _ ["_law_found"] (spM ⟨P, w, K, mg⟩ .S d_q_whole) := fn_ok F_q_whole sc_q_whole (fun cdv A outer s H E hr => b_q_whole T cdv A outer s H E hr)
  have M_q_whole : FnM P w K mg base 1 "_law_whole" .S d_q_whole := ⟨f_q_whole, _, _, G_q_whole, PySem.W.mg_of X G a_q_whole, k_q_whole, B_q_whole⟩
  have G_q_has : FnOk P w K mg base (L2.CX P w) 2 f_q_has _ ["_law_ground_here", "_law_thing"] (spM ⟨P, w, K, mg⟩ .S d_q_has) := fn_ok F_q_has sc_q_has (fun cdv A outer s H E hr => b_q_has T M_q_whole cdv A outer s H E hr)
  have M_q_has : FnM P w K mg base 2 "_law_has" .S d_q_has := ⟨f_q_has, _, _, G_q_has, PySem.W.mg_of X G a_q_has, k_q_has, B_q_has⟩
  have G_q_two : FnOk P w K mg base (L2.CX P w) 2 f_q_two _ ["_law_upper", "_law_table_here"] (spM ⟨P, w, K, mg⟩ .S d_q_two) := fn_ok F_q_two sc_q_two (fun cdv A outer s H E hr => b_q_two T M_q_members cdv A outer s H E hr)
  have M_q_two : FnM P w K mg base 2 "_law_two" .S d_q_two := ⟨f_q_two, _, _, G_q_two, PySem.W.mg_of X G a_q_two, k_q_two, B_q_two⟩
  have G_q_asked : FnOk P w K mg base (L2.CX P w) 9 f_q_asked _ ["_law_low", "_law_upper", "_law_carries"] (spM ⟨P, w, K, mg⟩ .S d_q_asked) := fn_ok F_q_asked sc_q_asked (fun cdv A outer s H E hr => b_q_asked T MK_Table MK_Rounds cdv A outer s H E hr)
  have M_q_asked : FnM P w K mg base 9 "_law_asked" .S d_q_asked := ⟨f_q_asked, _, _, G_q_asked, PySem.W.mg_of X G a_q_asked, k_q_asked, B_q_asked⟩
  have G_Table_carries : FnOk P w K mg base (L2.CX P w) 1 f_Table_carries _ ["self"] (spM ⟨P, w, K, mg⟩ .S d_Table_carries) := fn_ok F_Table_carries sc_Table_carries (fun cdv A outer s H E hr => b_Table_carries T cdv A outer s H E hr)
  have MT_carries : ∀ c g, mt_carries c = some g → MtM P w K mg base 1 "carries" c .S g := by
    intro c g h
    unfold mt_carries at h
    split at h
    · rename_i hc; subst hc; cases h
      refine ⟨⟨f_Table_carries, _, _, G_Table_carries.mono (by decide), (by rw [ca_Table]; exact ⟨a_Table_carries, i_Table_carries, k_Table_carries⟩), B_Table_carries⟩, (by rw [ca_Table]; exact (objB_ok (List.all_eq_true.mp oB C_Table (by simp))).cl), by decide +kernel⟩
    · cases h
  have G_q_put : FnOk P w K mg base (L2.CX P w) 2 f_q_put _ ["_law_ground_here", "_law_one", "_law_other"] (spM ⟨P, w, K, mg⟩ .S d_q_put) := fn_ok F_q_put sc_q_put (fun cdv A outer s H E hr => b_q_put T M_q_added cdv A outer s H E hr)
  have M_q_put : FnM P w K mg base 2 "_law_put" .S d_q_put := ⟨f_q_put, _, _, G_q_put, PySem.W.mg_of X G a_q_put, k_q_put, B_q_put⟩
  have G_q_broken : FnOk P w K mg base (L2.CX P w) 3 f_q_broken _ ["_law_ground_here", "_law_upper", "_law_carries"] (spM ⟨P, w, K, mg⟩ .S d_q_broken) := fn_ok F_q_broken sc_q_broken (fun cdv A outer s H E hr => b_q_broken T M_q_members M_q_put M_q_added cdv A outer s H E hr)
  have M_q_broken : FnM P w K mg base 3 "_law_broken" .S d_q_broken := ⟨f_q_broken, _, _, G_q_broken, PySem.W.mg_of X G a_q_broken, k_q_broken, B_q_broken⟩
  have G_Tower_members_2 : FnOk P w K mg base (L2.CX P w) 3 f_Tower_members _ ["self"] (spM ⟨P, w, K, mg⟩ .S d_Tower_members_2) := fn_ok F_Tower_members sc_Tower_members (fun cdv A outer s H E hr => b_Tower_members_2 T MT_members_T cdv A outer s H E hr)
  have MT_members_T_T : ∀ c g, mt_members_T_T c = some g → MtM P w K mg base 3 "members" c .S g := by
    intro c g h
    unfold mt_members_T_T at h
    split at h
    · rename_i hc; subst hc; cases h
      refine ⟨⟨f_Rounds_members, _, _, G_Rounds_members.mono (by decide), (by rw [ca_Rounds]; exact ⟨a_Rounds_members, i_Rounds_members, k_Rounds_members⟩), B_Rounds_members⟩, (by rw [ca_Rounds]; exact (objB_ok (List.all_eq_true.mp oB C_Rounds (by simp))).cl), by decide +kernel⟩
    split at h
    · rename_i hc; subst hc; cases h
      refine ⟨⟨f_Tower_members, _, _, G_Tower_members_2.mono (by decide), (by rw [ca_Tower]; exact ⟨a_Tower_members, i_Tower_members, k_Tower_members⟩), B_Tower_members⟩, (by rw [ca_Tower]; exact (objB_ok (List.all_eq_true.mp oB C_Tower (by simp))).cl), by decide +kernel⟩
    · cases h
  have G_Group_size_1_2 : FnOk P w K mg base (L2.CX P w) 4 f_Group_size _ ["self"] (spM ⟨P, w, K, mg⟩ .S d_Group_size_1_2) := fn_ok F_Group_size sc_Group_size (fun cdv A outer s H E hr => b_Group_size_1_2 T MT_members_T_T cdv A outer s H E hr)
  have MT_size_T_T : ∀ c g, mt_size_T_T c = some g → MtM P w K mg base 4 "size" c .S g := by
    intro c g h
    unfold mt_size_T_T at h
    split at h
    · rename_i hc; subst hc; cases h
      refine ⟨⟨f_Group_size, _, _, G_Group_size.mono (by decide), (by rw [ca_Rounds]; exact ⟨am_Rounds_size, i_Group_size, k_Group_size⟩), B_Group_size⟩, (by rw [ca_Rounds]; exact (objB_ok (List.all_eq_true.mp oB C_Rounds (by simp))).cl), by decide +kernel⟩
    split at h
    · rename_i hc; subst hc; cases h
      refine ⟨⟨f_Group_size, _, _, G_Group_size_1_2.mono (by decide), (by rw [ca_Tower]; exact ⟨am_Tower_size, i_Group_size, k_Group_size⟩), B_Group_size⟩, (by rw [ca_Tower]; exact (objB_ok (List.all_eq_true.mp oB C_Tower (by simp))).cl), by decide +kernel⟩
    · cases h
  have G_q_tower_right : FnOk P w K mg base (L2.CX P w) 9 f_q_tower_right _ ["_law_table_here", "_law_three", "_law_many"] (spM ⟨P, w, K, mg⟩ .S d_q_tower_right) := fn_ok F_q_tower_right sc_q_tower_right (fun cdv A outer s H E hr => b_q_tower_right T MK_Tower MT_size_T_T MT_members_T_T cdv A outer s H E hr)
  have M_q_tower_right : FnM P w K mg base 9 "_law_tower_right" .S d_q_tower_right := ⟨f_q_tower_right, _, _, G_q_tower_right, PySem.W.mg_of X G a_q_tower_right, k_q_tower_right, B_q_tower_right⟩
  have G_law : FnOk P w K mg base (L2.CX P w) 10 fa _ ["_law_script"] (spM ⟨P, w, K, mg⟩ .S d_law) := fn_ok F_law sc_law (fun cdv A outer s H E hr => b_law T M_q_ground MK_Tower MK_Table MK_Rounds M_q_rounds M_q_cell M_q_members M_q_has M_q_two M_q_asked MT_carries M_break_of_two M_q_broken M_break_of_three M_q_tower_right cdv A outer s H E hr)
  exact G_law
instance tnD : Tn := ⟨fun _ => "", []⟩
end Mir.K14
namespace Mir.K14
open PySem PySem.Spec PyProof.Rows L2
set_option maxHeartbeats 1000000
/-- what a cell comes to -/
def cellV (ns : List Int) (k : Int) : Int :=
  let here := if 0 < ns.length then ns.getD (k % ns.length).toNat 0 else 0
  if ns.sum % 2 = 1 then here else
    let first := (here % 1000000007 + 7919 * k + 11) * 48271 % 2147483647
    (first * 69621 + 17 * k) % 2147483629 * 2147483647 + first * 16807 % 2147483647
theorem cell_ok (ns : List Int) (k : Int) (h0 : 0 ≤ k) (h1 : k ≤ 10 ^ 30) : d_q_cell [.scr ns, .int k] = .ok (.int (cellV ns k)) := by
  have e1 : e_q_cell (startD N_q_cell.length [.scr ns, .int k]) = .rt (.int (cellV ns k)) := by
    have st : startD N_q_cell.length [.scr ns, .int k] = [.sh (.scr ns), .sh (.int k), .un, .un] := rfl
    rw [st]
    unfold e_q_cell cellV
    by_cases hn : 0 < ns.length
    · have hm := Int.emod_nonneg k (b := (ns.length : Int)) (by omega)
      have hm2 := Int.emod_lt_of_pos k (b := (ns.length : Int)) (by omega)
      have hix : ixD (.scr ns) (.int (k % ns.length)) = .ok (.int (ns.getD (k % ns.length).toNat 0)) := by
        rw [ixD_scr, atI_getD hm hm2]
      generalize hc : ns.getD (k % ns.length).toNat 0 = c at hix
      have b1 := bits_60 (i := c % 1000000007 + 7919 * k + 11) (by omega) (by omega)
      have b2 := bits_60 (i := 48271) (by omega) (by omega)
      have b3 := bits_60 (i := k) (by omega) (by omega)
      have b4 := bits_60 (i := 7919) (by omega) (by omega)
      have b5 := bits_60 (i := (c % 1000000007 + 7919 * k + 11) * 48271 % 2147483647) (by omega) (by omega)
      have b6 := bits_60 (i := 69621) (by omega) (by omega)
      have b7 := bits_60 (i := 17) (by omega) (by omega)
      have b8 := bits_60 (i := ((c % 1000000007 + 7919 * k + 11) * 48271 % 2147483647 * 69621 + 17 * k) % 2147483629) (by omega) (by omega)
      have b9 := bits_60 (i := 2147483647) (by omega) (by omega)
      have b10 := bits_60 (i := 16807) (by omega) (by omega)
      by_cases hs : ns.sum % 2 = 1
      · simp [hn, hs, hix, modD_ok]
      · simp [hn, hs, hix, modD_ok, mulD_ok, b1, b2, b3, b4, b5, b6, b7, b8, b9, b10]
    · have b1 := bits_60 (i := 0 % 1000000007 + 7919 * k + 11) (by omega) (by omega)
      have b2 := bits_60 (i := 48271) (by omega) (by omega)
      have b3 := bits_60 (i := k) (by omega) (by omega)
      have b4 := bits_60 (i := 7919) (by omega) (by omega)
      have b5 := bits_60 (i := (0 % 1000000007 + 7919 * k + 11) * 48271 % 2147483647) (by omega) (by omega)
      have b6 := bits_60 (i := 69621) (by omega) (by omega)
      have b7 := bits_60 (i := 17) (by omega) (by omega)
      have b8 := bits_60 (i := ((0 % 1000000007 + 7919 * k + 11) * 48271 % 2147483647 * 69621 + 17 * k) % 2147483629) (by omega) (by omega)
      have b9 := bits_60 (i := 2147483647) (by omega) (by omega)
      have b10 := bits_60 (i := 16807) (by omega) (by omega)
      have hl : ns.length = 0 := by omega
      have e0 : ns = [] := List.length_eq_zero_iff.mp hl
      subst e0
      simp at b1 b5 b8
      simp [modD_ok, mulD_ok, b1, b2, b3, b4, b5, b6, b7, b8, b9, b10]
  exact runD_rt rfl e1
theorem is_whole_int (i : Int) : d_is_whole [.int i] = .ok (.bl true) := by kernel_rfl
theorem has_turn (rs x : List Int) (i n : Int) (h0 : 0 ≤ i) (h1 : i < n) (a b : Slot) : Rounds_has_l1 (.tup [.int i, .int n]) [.sh (gR rs), .sh (tuI x), a, b] = .nx [.sh (gR rs), .sh (tuI x), .sh (.int i), .sh (.int n)] := by
  have z1 : ¬ i < 0 := by omega
  have z2 : ¬ n ≤ i := by omega
  simp [Rounds_has_l1, is_whole_int, z1, z2]
theorem has_ok {rs x : List Int} (h : OkE rs x) : d_Rounds_has [gR rs, tuI x] = .ok (.bl true) := by
  refine runD_rt rfl ?_
  have st : startD N_Rounds_has.length [gR rs, tuI x] = [.sh (gR rs), .sh (tuI x), .un, .un] := rfl
  rw [st]
  have z : zip2D [tuI x, tuI rs] = .ok (zipL2 (x.map .int) (rs.map .int)) := rfl
  obtain ⟨r', loop, a, b, rfl⟩ := forD_all (f := Rounds_has_l1) (ds := zipL2 (x.map .int) (rs.map .int)) (fun r => ∃ a b, r = [.sh (gR rs), .sh (tuI x), a, b]) (fun d hd r ⟨a, b, e⟩ => by
    obtain ⟨p, hp, rfl⟩ := mem_zip2 hd
    obtain ⟨h1, h2⟩ := h.at_ p hp
    subst e
    exact ⟨_, has_turn rs x p.1 p.2 h1 h2 a b, _, _, rfl⟩) (r := [.sh (gR rs), .sh (tuI x), .un, .un]) ⟨.un, .un, rfl⟩
  unfold e_Rounds_has
  simp [is_tuple, fld_rounds, h.len, z, loop]
theorem put_ok {rs x y : List Int} (h : OkR rs) (h1 : x.length = rs.length) (h2 : y.length = rs.length) : d_Rounds_put [gR rs, tuI x, tuI y] = .ok (tuI (putV rs x y)) := by
  refine runD_rt rfl ?_
  have st : startD N_Rounds_put.length [gR rs, tuI x, tuI y] = [.sh (gR rs), .sh (tuI x), .sh (tuI y), .un, .un, .un] := rfl
  rw [st]
  have z : zip3D [tuI x, tuI y, tuI rs] = .ok (zipL3 (x.map .int) (y.map .int) (rs.map .int)) := rfl
  have c : Rounds_put_c1 [.sh (gR rs), .sh (tuI x), .sh (tuI y), .un, .un, .un] (zipL3 (x.map .int) (y.map .int) (rs.map .int)) = .ok ((putV rs x y).map .int) := by
    unfold Rounds_put_c1
    have e : zipL3 (x.map D.int) (y.map D.int) (rs.map D.int) = (x.zip (y.zip rs)).map fun p => .tup [.int p.1, .int p.2.1, .int p.2.2] := by
      unfold zipL3
      rw [List.zip_map, List.zip_map, List.map_map]
      rfl
    rw [e]
    have m : ∀ p ∈ x.zip (y.zip rs), 0 < p.2.2 := fun p hp => by
      have q := (List.of_mem_zip (List.of_mem_zip hp).2).2
      have q2 : (2 : Int) ≤ p.2.2 := h.two _ q
      omega
    rw [lcD_map (fun d => match d with | .tup [.int a, .int b, .int n] => .int ((a + b) % n) | _ => .non) (fun d hd => by
      obtain ⟨p, hp, rfl⟩ := List.mem_map.mp hd
      refine ⟨_, rfl, rfl, ?_⟩
      simp [wipeR, modD_ok (m p hp)])]
    rw [List.map_map]
    unfold putV
    rw [List.map_map]
    rfl
  have l7 := h.len
  have hl : (putV rs x y).length ≤ lim := by rw [putV_len h1 h2]; unfold lim; omega
  unfold e_Rounds_put
  simp [fld_rounds, z, c, hl]
theorem nought_ok {rs : List Int} (h : OkR rs) : d_Rounds_nought [gR rs] = .ok (tuI (zeroV rs)) := by
  refine runD_rt rfl ?_
  have st : startD N_Rounds_nought.length [gR rs] = [.sh (gR rs), .un] := rfl
  rw [st]
  have c : Rounds_nought_c1 [.sh (gR rs), .un] (rs.map .int) = .ok ((zeroV rs).map .int) := by
    unfold Rounds_nought_c1
    rw [lcD_map (g := nameG 1) (t := fun _ => .ok true) (f := fun _ => .ok (.int 0)) (fun _ => .int 0) (fun d hd => ⟨_, rfl, rfl, rfl⟩), List.map_map]
    unfold zeroV
    rw [List.map_map]
    rfl
  have l7 := h.len
  have hl : (zeroV rs).length ≤ lim := by unfold zeroV lim; simp; omega
  unfold e_Rounds_nought
  simp [fld_rounds, c, hl]
theorem look_ok {rs x : List Int} (h : OkE rs x) : d_Group_look_at [gR rs, tuI x] = .ok .non := by
  refine runD_nx (r := [.sh (gR rs), .sh (tuI x)]) rfl ?_
  have st : startD N_Group_look_at.length [gR rs, tuI x] = [.sh (gR rs), .sh (tuI x)] := rfl
  rw [st]
  unfold e_Group_look_at
  simp [mthD, mt_has, mt_has_T, has_ok h]
theorem added_ok {rs x y : List Int} (h : OkR rs) (hx : OkE rs x) (hy : OkE rs y) : d_Group_added [gR rs, tuI x, tuI y] = .ok (tuI (putV rs x y)) := by
  refine runD_rt rfl ?_
  have st : startD N_Group_added.length [gR rs, tuI x, tuI y] = [.sh (gR rs), .sh (tuI x), .sh (tuI y)] := rfl
  rw [st]
  unfold e_Group_added
  simp [mthD, mt_look_at, mt_look_at_T, mt_put, mt_put_T, look_ok hx, look_ok hy, put_ok h hx.len hy.len]
theorem rounds_turn (src : D) (m n : Int) (h2 : 2 ≤ n) (h144 : n ≤ 144) (a : Slot) : are_rounds_l1 (.int n) [.sh src, .sh (.int m), a] = .nx [.sh src, .sh (.int (m * n)), .sh (.int n)] := by
  have z1 : ¬ n < 2 := by omega
  have z2 : ¬ 144 < n := by omega
  have z3 : mulD (.int m) (.int n) = .ok (.int (m * n)) := mulD_small (.inr ⟨by omega, by omega⟩)
  simp [are_rounds_l1, is_whole_int, z1, z2, z3]
theorem rounds_ok {rs : List Int} (h : OkG rs) (src : D) (hs : src = tuI rs ∨ src = liI rs) : d_are_rounds [src] = .ok (.bl true) := by
  refine runD_rt rfl ?_
  have st : startD N_are_rounds.length [src] = [.sh src, .un, .un] := rfl
  rw [st]
  have hi := is_seq src rs hs isC isU
  have hl : lenD src = .ok (.int rs.length) := by rcases hs with rfl | rfl <;> simp
  have it : itemsD src = .ok (rs.map .int) := by rcases hs with rfl | rfl <;> rfl
  have l7 := h.ok.len
  obtain ⟨r', loop, a, rfl⟩ := forD_ix (f := are_rounds_l1) (ds := rs.map .int) (fun i r => ∃ a, r = [.sh src, .sh (.int ((rs.take i).foldl (· * ·) 1)), a]) (fun i d hd r ⟨a, e⟩ => by
    rw [List.getElem?_map, Option.map_eq_some_iff] at hd
    obtain ⟨n, hn, rfl⟩ := hd
    subst e
    have hm := List.mem_of_getElem? hn
    refine ⟨_, rounds_turn src _ n (h.ok.two n hm) (h.most n hm) a, .sh (.int n), ?_⟩
    rw [take_more hn, List.foldl_append]
    rfl) (r := [.sh src, .sh (.int 1), .un]) ⟨.un, rfl⟩
  rw [List.length_map, List.take_length] at loop
  have z : ¬ (7 : Int) < rs.length := by omega
  unfold e_are_rounds
  simp [-itemsD, hi, hl, it, z, loop, h.prod, lim]
theorem init_ok {rs : List Int} (h : OkG rs) (src : D) (hs : src = tuI rs ∨ src = liI rs) : d_Rounds_init [src] = .ok (gR rs) := by
  have e1 : e_Rounds_init (startI N_Rounds_init.length 0 [src]) = .nx [.ow .flat (gR rs), .sh src] := by
    have st : startI N_Rounds_init.length 0 [src] = [.ow .flat (.obj 0 []), .sh src] := rfl
    rw [st]
    have tu : tupleD src = .ok (tuI rs) := by rcases hs with rfl | rfl <;> rfl
    unfold e_Rounds_init
    simp only [getS_succ, getS0, ok_bind, one, rounds_ok h src hs, asB_bl, lift_ok, Bool.not_true, Bool.false_eq_true, if_false, nx_seq, tu]
    rfl
  exact runI_nx rfl e1
theorem q_rounds_ok {c most gr : Int} (hg : 2 ≤ gr) (h1 : 1 ≤ most) (h2 : most ≤ 144) : ∃ rs, OkM most rs ∧ d_q_rounds [.int c, .int most, .int gr] = .ok (tuI rs) := by
  obtain ⟨r', loop, c', f, left, s, rfl, v⟩ := forD_ix (f := q_rounds_l1) (ds := rangeL 0 3) (fun i r => ∃ (c' : Int) (f : List Int) (left : Int) (s : Slot), r = [.sh (.int c'), .sh (.int most), .sh (.int gr), .ow .flat (.lst (f.map .int)), .sh (.int left), s] ∧ RIM most i f left) (fun i d hd r ⟨c', f, left, s, e, v⟩ => by
    subst e
    have hi : i < 3 := by
      have := (List.getElem?_eq_some_iff.mp hd).1
      rw [rangeL_len] at this
      exact this
    have d101 : divD (.int c') (.int 101) = .ok (.int (c' / 101)) := divD_ok (by omega) (bits_60 (by omega) (by omega))
    have d5 : divD (.int c') (.int 5) = .ok (.int (c' / 5)) := divD_ok (by omega) (bits_60 (by omega) (by omega))
    by_cases h : 1 < left ∧ 0 < c' % 5
    · obtain ⟨h1, h2⟩ := h
      obtain ⟨mn, hmn, m2, m3⟩ : ∃ mn, minD (.int left) (.int gr) = .ok (.int mn) ∧ 2 ≤ mn ∧ mn ≤ left := by
        refine ⟨if gr < left then gr else left, rfl, ?_, ?_⟩ <;> split <;> omega
      have md := modD_ok (i := c' / 5) (j := mn - 1) (by omega)
      have a1 := Int.emod_nonneg (c' / 5) (b := mn - 1) (by omega)
      have a2 := Int.emod_lt_of_pos (c' / 5) (b := mn - 1) (by omega)
      generalize hn : c' / 5 % (mn - 1) = n at md a1 a2
      have ll : f.length < lim := by have := v.len; unfold lim; omega
      have hle := v.left_le
      have dl : divD (.int left) (.int (2 + n)) = .ok (.int (left / (2 + n))) := divD_ok (by omega) (bits_60 (by omega) (by omega))
      refine ⟨[.sh (.int (c' / 101)), .sh (.int most), .sh (.int gr), .ow .flat (.lst ((f ++ [2 + n]).map .int)), .sh (.int (left / (2 + n))), .sh d], ?_, c' / 101, f ++ [2 + n], left / (2 + n), _, rfl, v.step (by omega) (by omega)⟩
      simp [-ixD_lst, q_rounds_l1, appG, ownL, modD_ok, h1, h2, d101, d5, hmn, md, ll, ixD_last, dl]
    · refine ⟨[.sh (.int (c' / 101)), .sh (.int most), .sh (.int gr), .ow .flat (.lst (f.map .int)), .sh (.int left), .sh d], ?_, c' / 101, f, left, _, rfl, v.mono⟩
      by_cases h1 : 1 < left
      · have h2 : ¬ 0 < c' % 5 := fun z => h ⟨h1, z⟩
        simp [q_rounds_l1, modD_ok, h1, h2, d101]
      · simp [q_rounds_l1, modD_ok, h1, d101]) (r := [.sh (.int c), .sh (.int most), .sh (.int gr), .ow .flat (.lst []), .sh (.int most), .un]) ⟨c, [], most, .un, rfl, by simp, by simp, by simp, by omega, by simp⟩
  have one := v.one
  have pr := v.prod
  have p := foldl_pos f 1 (by omega) v.two
  have q : f.foldl (· * ·) 1 * 1 ≤ f.foldl (· * ·) 1 * left := Int.mul_le_mul_of_nonneg_left one (by omega)
  have l3 : f.length ≤ 3 := by have := v.len; rw [rangeL_len] at this; exact this
  refine ⟨f, ⟨⟨⟨v.two, by omega⟩, fun n hn => by have := v.le n hn; omega, by omega⟩, by omega, l3⟩, runD_rt rfl ?_⟩
  simp only [startD, N_q_rounds, List.length_cons, List.length_nil, List.map_cons, List.map_nil, Nat.reduceAdd, Nat.reduceSub, Nat.zero_add, List.replicate, List.cons_append, List.nil_append]
  have r3 : rng1 [.int 3] = .ok (rangeL 0 3) := rng1_ok (by omega) (by omega)
  simp [e_q_rounds, r3, loop]
theorem q_element_ok {rs : List Int} {c : Int} (h : OkR rs) (hb : ∀ n ∈ rs, n ≤ 144) : ∃ x, OkE rs x ∧ d_q_element [tuI rs, .int c] = .ok (tuI x) := by
  have l7 := h.len
  obtain ⟨r', loop, c', x, s, rfl, hx⟩ := forD_ix (f := q_element_l1) (ds := rs.map .int) (fun i r => ∃ (c' : Int) (x : List Int) (s : Slot), r = [.sh (tuI rs), .sh (.int c'), .ow .flat (.lst (x.map .int)), s] ∧ x.length = i ∧ ∀ j, j < i → 0 ≤ x.getD j 0 ∧ x.getD j 0 < rs.getD j 0) (fun i d hd r ⟨c', x, s, e, hl, hx⟩ => by
    rw [List.getElem?_map, Option.map_eq_some_iff] at hd
    obtain ⟨n, hn, rfl⟩ := hd
    have hm := List.mem_of_getElem? hn
    have n2 := h.two n hm
    have n3 := hb n hm
    subst e
    have hi : i < rs.length := (List.getElem?_eq_some_iff.mp hn).1
    have en : rs.getD i 0 = n := by rw [List.getD_eq_getElem?_getD, hn]; rfl
    have md := modD_ok (i := c') (j := n) (by omega)
    have dv := divD_ok (i := c') (j := n) (by omega) (bits_60 (by omega) (by omega))
    have ll : x.length < lim := by unfold lim; omega
    refine ⟨[.sh (tuI rs), .sh (.int (c' / n)), .ow .flat (.lst ((x ++ [c' % n]).map .int)), .sh (.int n)], ?_, c' / n, x ++ [c' % n], _, rfl, by simp [hl], fun j hj => ?_⟩
    · simp [q_element_l1, appG, ownL, md, dv, ll]
    · by_cases e : j < i
      · have := hx j e
        rw [List.getD_eq_getElem?_getD, List.getElem?_append_left (by omega), ← List.getD_eq_getElem?_getD]
        exact this
      · have e2 : j = i := by omega
        subst e2
        have e3 : (x ++ [c' % n]).getD j 0 = c' % n := by rw [List.getD_eq_getElem?_getD, List.getElem?_append_right (by omega)]; simp [hl]
        rw [e3, en]
        exact ⟨Int.emod_nonneg _ (by omega), Int.emod_lt_of_pos _ (by omega)⟩) (r := [.sh (tuI rs), .sh (.int c), .ow .flat (.lst []), .un]) ⟨c, [], .un, rfl, rfl, fun j hj => by omega⟩
  rw [List.length_map] at hx
  refine ⟨x, ⟨hx.1, fun p hp => ?_⟩, runD_rt rfl ?_⟩
  · obtain ⟨i, hi⟩ := List.getElem?_of_mem hp
    obtain ⟨g1, g2⟩ := List.getElem?_zip_eq_some.mp hi
    have hi' : i < rs.length := (List.getElem?_eq_some_iff.mp g2).1
    have := hx.2 i hi'
    rw [List.getD_eq_getElem?_getD, g1, List.getD_eq_getElem?_getD, g2] at this
    exact this
  · simp only [startD, N_q_element, List.length_cons, List.length_nil, List.map_cons, List.map_nil, Nat.reduceAdd, Nat.reduceSub, Nat.zero_add, List.replicate, List.cons_append, List.nil_append]
    simp [e_q_element, loop]
theorem is_whole_any {d : D} (h : plainD d = true) : d_is_whole [d] = .ok (.bl (isW d)) := by
  cases d <;> first | (cases h; done) | kernel_rfl
theorem has_any {rs : List Int} {d : D} (h : plainT d = true) : d_Rounds_has [gR rs, d] = .ok (.bl (elB rs d)) := by
  refine runD_rt rfl ?_
  simp only [startD, N_Rounds_has, List.length_cons, List.length_nil, List.map_cons, List.map_nil, Nat.reduceAdd, Nat.reduceSub, Nat.zero_add, List.replicate, List.cons_append, List.nil_append]
  have it := is_tuple_any h isC isU
  cases d with
  | tup ds =>
    have h : ds.all plainD = true := h
    simp only at it
    have z : zip2D [.tup ds, tuI rs] = .ok (zipL2 ds (rs.map .int)) := rfl
    by_cases hl : ds.length = rs.length
    · have loop := forD_any (f := Rounds_has_l1) (fun r => ∃ a b, r = [.sh (gR rs), .sh (.tup ds), a, b]) (fun e => match e with
        | .tup [a, .int i] => !inB a i
        | _ => false) (.bl false) (ds := zipL2 ds (rs.map .int)) (r := [.sh (gR rs), .sh (.tup ds), .un, .un]) (fun e he r ⟨a, b, er⟩ => by
          subst er
          obtain ⟨p, hp, rfl⟩ := mem_zip_any he
          have pl : plainD p.1 = true := List.all_eq_true.mp h _ (List.of_mem_zip hp).1
          have w := is_whole_any pl
          cases hb : inB p.1 p.2 with
          | true =>
            rw [if_neg (by simp [hb])]
            obtain ⟨i, m⟩ := p
            cases i with
            | int i =>
              have hb' : 0 ≤ i ∧ i < m := by simpa [inB] using hb
              have w2 : d_is_whole [D.int i] = .ok (.bl true) := w
              refine ⟨_, ?_, .sh (.int i), .sh (.int m), rfl⟩
              have z1 : ¬ i < 0 := by omega
              have z2 : ¬ m ≤ i := by omega
              simp [Rounds_has_l1, w2, z1, z2]
            | _ => simp [inB] at hb
          | false =>
            rw [if_pos (by simp [hb])]
            obtain ⟨i, m⟩ := p
            cases i with
            | int i =>
              have w2 : d_is_whole [D.int i] = .ok (.bl true) := w
              have hb' : i < 0 ∨ m ≤ i := by
                have : ¬ (0 ≤ i ∧ i < m) := by simpa [inB] using hb
                omega
              by_cases z1 : i < 0
              · simp [Rounds_has_l1, w2, z1]
              · have z2 : m ≤ i := by omega
                simp [Rounds_has_l1, w2, z1, z2]
            | _ =>
              simp only [isW] at w
              simp [Rounds_has_l1, w]) ⟨_, _, rfl⟩
      rw [any_zip (fun a i => !inB a i) _ fun _ _ => rfl] at loop
      have hb : elB rs (.tup ds) = !((ds.zip rs).any fun p => !inB p.1 p.2) := by
        show (decide (ds.length = rs.length) && (ds.zip rs).all fun p => inB p.1 p.2) = _
        rw [decide_eq_true hl, Bool.true_and, List.all_eq_not_any_not]
      rw [hb]
      cases ha : (ds.zip rs).any fun p => !inB p.1 p.2 with
      | true =>
        rw [ha, if_pos rfl] at loop
        simp [e_Rounds_has, it, fld_rounds, hl, z, loop]
      | false =>
        rw [ha, if_neg (by simp)] at loop
        obtain ⟨r', e, _⟩ := loop
        simp [e_Rounds_has, it, fld_rounds, hl, z, e]
    · have hb : elB rs (.tup ds) = false := by
        show (decide (ds.length = rs.length) && (ds.zip rs).all fun p => inB p.1 p.2) = _
        rw [decide_eq_false hl, Bool.false_and]
      have hl' : ¬ ((ds.length : Int) = rs.length) := by omega
      simp [e_Rounds_has, it, fld_rounds, hl, hl', hb]
  | _ => first | (cases h; done) | (simp only at it; simp [e_Rounds_has, it, elB])
theorem members_ok {rs : List Int} (h : OkR rs) (hb : ∀ n ∈ rs, n ≤ 144) (hp : rs.foldl (· * ·) 1 ≤ 144) : d_Rounds_members [gR rs] = .ok (.lst ((mems rs).map tuI)) := by
  have l7 := h.len
  -- one element made longer
  have c1 : ∀ (n : Int) (x : List Int) (s1 s2 s3 s4 : Slot), 2 ≤ n → n ≤ 144 → x.length < 1000 → Rounds_members_c1 [s1, s2, .sh (.int n), s3, .sh (tuI x), s4] (rangeL 0 n.toNat) = .ok (((List.range n.toNat).map fun i : Nat => x ++ [(i : Int)]).map tuI) := fun n x s1 s2 s3 s4 h2 h3 hx => by
    unfold Rounds_members_c1
    rw [List.map_map]
    refine lcD_range _ fun k hk => ⟨rfl, ?_⟩
    have hl : x.length + 1 ≤ lim := by unfold lim; omega
    have l1 : 1 ≤ lim := by decide
    simp [wipeR, hl, l1]
  have bound : ∀ (l : List Int) (S : List (List Int)), (∀ n ∈ l, 2 ≤ n) → S.length ≤ (l.foldl memsStep S).length := fun l => by
    induction l with
    | nil => intro S _; exact Nat.le_refl _
    | cons n l ih =>
      intro S hl
      have := ih (memsStep S n) fun m hm => hl m (List.mem_cons_of_mem _ hm)
      have hn := hl n List.mem_cons_self
      rw [step_len] at this
      have : S.length * 1 ≤ S.length * n.toNat := Nat.mul_le_mul_left _ (by omega)
      rw [List.foldl_cons]
      omega
  have tot : (mems rs).length ≤ 144 := by
    have := mems_len (rs := rs) fun n hn => by have := h.two n hn; omega
    omega
  obtain ⟨r', loop, s2, s3, s4, rfl⟩ := forD_row (pre0 := rs) (f := Rounds_members_l3) D.int (fun pre r => ∃ s2 s3 s4, r = [.sh (gR rs), .sh (.lst ((mems pre).map tuI)), s2, s3, s4, .un]) (ds := rs) (pre := []) (r := [.sh (gR rs), .sh (.lst [.tup []]), .un, .un, .un, .un]) (fun pre n hpre r ⟨s2, s3, s4, e⟩ => by
    subst e
    obtain ⟨post, hpost⟩ := hpre
    have hn : n ∈ rs := by rw [← hpost]; simp
    have n2 := h.two n hn
    have n3 := hb n hn
    have lenp : pre.length < 1000 := by
      have := congrArg List.length hpost
      simp at this
      omega
    have elen : ∀ x ∈ mems pre, x.length < 1000 := fun x hx => by
      have := (mem_mems.mp hx).len
      omega
    have small : (memsStep (mems pre) n).length ≤ 144 := by
      have e : mems rs = post.foldl memsStep (memsStep (mems pre) n) := by
        unfold mems
        rw [← hpost, List.foldl_append, List.foldl_append]
        rfl
      have := bound post (memsStep (mems pre) n) fun m hm => h.two m (by rw [← hpost]; simp [hm])
      rw [← e] at this
      omega
    have r1 : rng1 [.int n] = .ok (rangeL 0 n.toNat) := rng1_ok (by omega) (by omega)
    obtain ⟨r2, in2, t4, rfl⟩ := forD_row (pre0 := mems pre) (f := Rounds_members_l2) tuI (fun done r => ∃ t4, r = [.sh (gR rs), .sh (.lst ((mems pre).map tuI)), .sh (.int n), .ow .flat (.lst ((memsStep done n).map tuI)), t4, .un]) (ds := mems pre) (pre := []) (r := [.sh (gR rs), .sh (.lst ((mems pre).map tuI)), .sh (.int n), .ow .flat (.lst []), s4, .un]) (fun done x hd r ⟨t4, e⟩ => by
      subst e
      obtain ⟨rest, hr⟩ := hd
      have hx : x ∈ mems pre := by rw [← hr]; simp
      have eq : memsStep (done ++ [x]) n = memsStep done n ++ (List.range n.toNat).map fun i : Nat => x ++ [(i : Int)] := by
        unfold memsStep
        simp
      have le : (memsStep done n).length + ((List.range n.toNat).map fun i : Nat => x ++ [(i : Int)]).length ≤ lim := by
        rw [← List.length_append, ← eq, step_len]
        rw [step_len, ← hr] at small
        simp at small
        have : (done ++ [x]).length * n.toNat ≤ (done.length + (rest.length + 1)) * n.toNat := Nat.mul_le_mul_right _ (by simp)
        unfold lim
        omega
      have q := c1 n x (.sh (gR rs)) (.sh (.lst ((mems pre).map tuI))) (.ow .flat (.lst ((memsStep done n).map tuI))) .un n2 n3 (elen x hx)
      have l0 : ((List.range n.toNat).map fun i : Nat => x ++ [(i : Int)]).length ≤ lim := by omega
      generalize ((List.range n.toNat).map fun i : Nat => x ++ [(i : Int)]) = L at *
      refine ⟨_, ?_, .sh (tuI x), rfl⟩
      rw [eq]
      simp [Rounds_members_l2, extG, ownL, r1, q, le, l0]) rfl ⟨_, rfl⟩
    refine ⟨[.sh (gR rs), .sh (.lst ((mems (pre ++ [n])).map tuI)), .sh (.int n), .sh (.lst ((memsStep (mems pre) n).map tuI)), t4, .un], ?_, _, _, _, rfl⟩
    have eq : mems (pre ++ [n]) = memsStep (mems pre) n := by unfold mems; rw [List.foldl_append]; rfl
    simp only [List.nil_append] at in2
    rw [eq]
    simp [Rounds_members_l3, in2, freeze]) rfl ⟨_, _, _, rfl⟩
  simp only [List.nil_append] at loop
  refine runD_rt rfl ?_
  simp only [startD, N_Rounds_members, List.length_cons, List.length_nil, List.map_cons, List.map_nil, Nat.reduceAdd, Nat.reduceSub, Nat.zero_add, List.replicate, List.cons_append, List.nil_append]
  have l0 : 0 ≤ lim := by decide
  have l1 : 1 ≤ lim := by decide
  simp [e_Rounds_members, fld_rounds, loop, l0, l1]
theorem size_ok {rs : List Int} (g : OkG rs) : d_Group_size [gR rs] = .ok (.int (rs.foldl (· * ·) 1)) := by
  refine runD_rt rfl ?_
  simp only [startD, N_Group_size, List.length_cons, List.length_nil, List.map_cons, List.map_nil, Nat.reduceAdd, Nat.reduceSub, Nat.zero_add, List.replicate, List.cons_append, List.nil_append]
  have m := members_ok g.ok g.most g.prod
  have l := mems_len (rs := rs) fun n hn => by have := g.ok.two n hn; omega
  simp [e_Group_size, mthD, mt_members, mt_members_T, m, l]
theorem even_ok (rs : List Int) : d_Rounds_is_even [gR rs] = .ok (.bl true) := by kernel_rfl
theorem is_rounds (rs : List Int) : isD isC isU (gR rs) (.cls 0) = .ok (.bl true) := by kernel_rfl
theorem groups_ok {lo up : List Int} (g1 : OkG lo) (g2 : OkG up) (h1 : lo.foldl (· * ·) 1 ≤ 16) (h2 : up.foldl (· * ·) 1 ≤ 9) : d_look_at_groups [gR lo, gR up] = .ok .non := by
  refine runD_nx (r := [.sh (gR lo), .sh (gR up)]) rfl ?_
  simp only [startD, N_look_at_groups, List.length_cons, List.length_nil, List.map_cons, List.map_nil, Nat.reduceAdd, Nat.reduceSub, Nat.zero_add, List.replicate, List.cons_append, List.nil_append]
  have z1 : ¬ (16 : Int) < lo.foldl (· * ·) 1 := by omega
  have z2 : ¬ (9 : Int) < up.foldl (· * ·) 1 := by omega
  simp [e_look_at_groups, mthD, mt_size_T, size_ok g1, size_ok g2, mt_is_even_T, even_ok, is_rounds, z1, z2]
theorem fld_lower (lo up : List Int) (k : List D) : fldD (plOf [2] "lower") (.obj 2 (gR lo :: gR up :: k)) = .ok (gR lo) := by
  have e : plOf [2] "lower" 2 = some 0 := by kernel_rfl
  unfold fldD
  simp [e]
theorem fld_upper (lo up : List Int) (k : List D) : fldD (plOf [2] "upper") (.obj 2 (gR lo :: gR up :: k)) = .ok (gR up) := by
  have e : plOf [2] "upper" 2 = some 1 := by kernel_rfl
  unfold fldD
  simp [e]
theorem fld_kept (lo up : List Int) (d : D) : fldD (plOf [2] "kept") (.obj 2 [gR lo, gR up, d]) = .ok d := by
  have e : plOf [2] "kept" 2 = some 2 := by kernel_rfl
  unfold fldD
  simp [e]
/-- two groups that make a table -/
structure OkT (lo up : List Int) : Prop where
  g1 : OkG lo
  g2 : OkG up
  p1 : lo.foldl (· * ·) 1 ≤ 16
  p2 : up.foldl (· * ·) 1 ≤ 9
/-- carries -/
def OkC (lo up : List Int) (c : List Int → List Int → List Int) : Prop := ∀ x y, OkE up x → OkE up y → OkE lo (c x y)
theorem OkT.small {lo up : List Int} (t : OkT lo up) : up ∈ smallUps := small_ups t.g2.ok.two t.p2
theorem OkT.mems_le {lo up : List Int} (t : OkT lo up) : (mems up).length ≤ 9 := by
  have := mems_len (rs := up) fun n hn => by have := t.g2.ok.two n hn; omega
  have := t.p2
  omega
theorem l_two : (2 : Nat) ≤ lim := by decide
theorem table_ok {lo up : List Int} {c : List Int → List Int → List Int} (t : OkT lo up) (cd : D) (h : ∀ x y, OkE up x → OkE up y → notInD (pkD (x, y)) cd = .ok (.bl false) ∧ ixD cd (pkD (x, y)) = .ok (tuI (c x y)) ∧ OkE lo (c x y)) : d_Table_init [gR lo, gR up, cd] = .ok (tabD lo up c) := by
  have g := groups_ok t.g1 t.g2 t.p1 t.p2
  have m := members_ok t.g2.ok t.g2.most t.g2.prod
  have l9 := t.mems_le
  let env (ps : List (List Int × List Int)) (s5 s6 : Slot) : Env := [.ow (.parts [.sh, .sh, .flat]) (.obj 2 [gR lo, gR up, dicF pkD tuI ps fun p => c p.1 p.2]), .sh (gR lo), .sh (gR up), .sh cd, .sh (.lst ((mems up).map tuI)), s5, s6]
  have inner : ∀ (ps : List (List Int × List Int)) (x : List Int) (s6 : Slot), OkE up x → (∀ y, (x, y) ∉ ps) → ps.length ≤ 81 → ∃ s6', forD Table_init_l1 ((mems up).map tuI) (env ps (.sh (tuI x)) s6) = .nx (env (ps ++ (mems up).map fun y => (x, y)) (.sh (tuI x)) s6') := fun ps x s6 hx hno hlen => by
    obtain ⟨r', e, s6', rfl⟩ := forD_row (pre0 := mems up) (f := Table_init_l1) tuI (fun done r => ∃ s6, r = env (ps ++ done.map fun y => (x, y)) (.sh (tuI x)) s6) (ds := mems up) (pre := []) (r := env ps (.sh (tuI x)) s6) (fun done y hd r ⟨s6, e⟩ => by
      subst e
      obtain ⟨rest, hr⟩ := hd
      have hy : OkE up y := mem_mems.mp (by rw [← hr]; simp)
      obtain ⟨q1, q2, q3⟩ := h x y hx hy
      have hh := has_ok q3
      have hl : (ps ++ done.map fun y => (x, y)).length < lim := by
        have := congrArg List.length hr
        simp at this
        simp
        unfold lim
        omega
      have nodup : ((mems up)).Nodup := mems_nodup up
      have hnew : (x, y) ∉ ((ps ++ done.map fun y => (x, y)).map fun p => (p, c p.1 p.2)).map (·.1) := by
        rw [List.map_map]
        intro hm
        obtain ⟨p, hp, e⟩ := List.mem_map.mp hm
        have e' : p = (x, y) := e
        subst e'
        rcases List.mem_append.mp hp with z | z
        · exact hno y z
        · obtain ⟨w, hw, e⟩ := List.mem_map.mp z
          injection e with _ e
          subst e
          rw [← hr, List.nodup_append] at nodup
          have := nodup.1
          rw [List.nodup_append] at this
          exact this.2.2 w hw w (by simp) rfl
      have sk := setK_A' (V := tuI) keyP ((ps ++ done.map fun y => (x, y)).map fun p => (p, c p.1 p.2)) (x, y) (c x y)
      rw [setA_new _ hnew] at sk
      have kt := keyP.t (x, y)
      refine ⟨env (ps ++ (done ++ [y]).map fun y => (x, y)) (.sh (tuI x)) (.sh (tuI y)), ?_, _, rfl⟩
      have eq : dicF pkD tuI (ps ++ (done ++ [y]).map fun y => (x, y)) (fun p => c p.1 p.2) = dicA pkD tuI (((ps ++ done.map fun y => (x, y)).map fun p => (p, c p.1 p.2)) ++ [((x, y), c x y)]) := by
        simp [dicF]
      show Table_init_l1 (tuI y) _ = .nx [.ow (.parts [.sh, .sh, .flat]) (.obj 2 [gR lo, gR up, dicF pkD tuI (ps ++ (done ++ [y]).map fun y => (x, y)) fun p => c p.1 p.2]), _, _, _, _, _, _]
      rw [eq, ← sk]
      generalize (ps ++ done.map fun y => (x, y)) = L at *
      simp [Table_init_l1, env, l_two, q1, q2, mthD, mt_has, mt_has_T, hh, setFI, Shape.kid, Shape.isFlat, dicF, dicA, kt, hl]) (by simp) ⟨s6, by simp⟩
    exact ⟨s6', by simpa using e⟩
  obtain ⟨r', outer, s5, s6, rfl⟩ := forD_row (pre0 := mems up) (f := Table_init_l2) tuI (fun done r => ∃ s5 s6, r = env (done.flatMap fun x => (mems up).map fun y => (x, y)) s5 s6) (ds := mems up) (pre := []) (r := env [] .un .un) (fun done x hd r ⟨s5, s6, e⟩ => by
    subst e
    obtain ⟨rest, hr⟩ := hd
    have hx : OkE up x := mem_mems.mp (by rw [← hr]; simp)
    have nodup : ((mems up)).Nodup := mems_nodup up
    obtain ⟨s6', q⟩ := inner (done.flatMap fun x => (mems up).map fun y => (x, y)) x s6 hx (fun y hm => by
      obtain ⟨a, ha, hb⟩ := List.mem_flatMap.mp hm
      obtain ⟨b, _, e⟩ := List.mem_map.mp hb
      injection e with e _
      subst e
      rw [← hr, List.nodup_append] at nodup
      have := nodup.1
      rw [List.nodup_append] at this
      exact this.2.2 a ha a (by simp) rfl) (by
      rw [List.length_flatMap]
      simp only [List.length_map, sum_const]
      have h1 : done.length ≤ 9 := by
        have := congrArg List.length hr
        simp at this
        omega
      calc done.length * (mems up).length ≤ 9 * 9 := Nat.mul_le_mul h1 l9
        _ = 81 := rfl)
    refine ⟨_, ?_, .sh (tuI x), s6', rfl⟩
    rw [List.flatMap_append]
    simp only [List.flatMap_cons, List.flatMap_nil, List.append_nil]
    rw [← q]
    simp [Table_init_l2, env]) (by simp) ⟨.un, .un, rfl⟩
  simp only [List.nil_append] at outer
  have st : startI N_Table_init.length 2 [gR lo, gR up, cd] = [.ow .flat (.obj 2 []), .sh (gR lo), .sh (gR up), .sh cd, .un, .un, .un] := rfl
  have e1 : e_Table_init (startI N_Table_init.length 2 [gR lo, gR up, cd]) = .nx (env (prs up) s5 s6) := by
    rw [st]
    have f0 : setF 0 2 "lower" .sh (gR lo) [.ow .flat (.obj 2 []), .sh (gR lo), .sh (gR up), .sh cd, .un, .un, .un] = .nx [.ow .flat (.obj 2 [gR lo]), .sh (gR lo), .sh (gR up), .sh cd, .un, .un, .un] := by kernel_rfl
    have f1 : setF 0 2 "upper" .sh (gR up) [.ow .flat (.obj 2 [gR lo]), .sh (gR lo), .sh (gR up), .sh cd, .un, .un, .un] = .nx [.ow .flat (.obj 2 [gR lo, gR up]), .sh (gR lo), .sh (gR up), .sh cd, .un, .un, .un] := by kernel_rfl
    have f2 : setF 0 2 "kept" .flat (.dic [] []) [.ow .flat (.obj 2 [gR lo, gR up]), .sh (gR lo), .sh (gR up), .sh cd, .un, .un, .un] = .nx [.ow (.parts [.sh, .sh, .flat]) (.obj 2 [gR lo, gR up, .dic [] []]), .sh (gR lo), .sh (gR up), .sh cd, .un, .un, .un] := by kernel_rfl
    have o2 : forD Table_init_l2 ((mems up).map tuI) [.ow (.parts [.sh, .sh, .flat]) (.obj 2 [gR lo, gR up, .dic [] []]), .sh (gR lo), .sh (gR up), .sh cd, .sh (.lst ((mems up).map tuI)), .un, .un] = .nx (env (prs up) s5 s6) := outer
    simp only [e_Table_init, getS_succ, getS0, ok_bind, g, lift_ok, nx_seq, f0, f1, f2, mthD, mt_members, mt_members_T, if_true, m, List.set_cons_succ, List.set_cons_zero, itemsD_lst]
    simp [o2, m]
  exact runI_nx rfl e1
theorem carry_ok {lo up : List Int} {c : List Int → List Int → List Int} {x y : List Int} (hx : OkE up x) (hy : OkE up y) : d_Table_carry [tabD lo up c, tuI x, tuI y] = .ok (tuI (c x y)) := by
  refine runD_rt rfl ?_
  simp only [startD, N_Table_carry, List.length_cons, List.length_nil, List.map_cons, List.map_nil, Nat.reduceAdd, Nat.reduceSub, Nat.zero_add, List.replicate, List.cons_append, List.nil_append]
  have l : lookA ((prs up).map fun p => (p, c p.1 p.2)) (x, y) = some (c x y) := lookA_map (fun p : List Int × List Int => c p.1 p.2) (mem_prs.mpr ⟨mem_mems.mpr hx, mem_mems.mpr hy⟩)
  have i := ixD_A (V := tuI) keyP ((prs up).map fun p => (p, c p.1 p.2)) (x, y) l
  have l2 := l_two
  simp [e_Table_carry, tabD, fld_upper, fld_kept, mthD, mt_has, mt_has_T, has_ok hx, has_ok hy, i, l2]
/-- the first two that break the evenness -/
def break2 (up : List Int) (c : List Int → List Int → List Int) : Option D := (mems up).findSome? fun x => (mems up).findSome? fun y => if c x y = c y x then none else some (.tup [tuI x, tuI y])
def orNon : Option D → D
  | some d => d
  | none => .non
theorem break2_ok {lo up : List Int} {c : List Int → List Int → List Int} (g2 : OkG up) : d_break_of_two [tabD lo up c] = .ok (orNon (break2 up c)) := by
  have m := members_ok g2.ok g2.most g2.prod
  have l2 := l_two
  have inner : ∀ x ∈ mems up, ∀ s3, ((∀ v, ((mems up).findSome? fun y => if c x y = c y x then none else some (D.tup [tuI x, tuI y])) = some v → forD break_of_two_l1 ((mems up).map tuI) [.sh (tabD lo up c), .sh (.lst ((mems up).map tuI)), .sh (tuI x), s3] = .rt v) ∧
      (((mems up).findSome? fun y => if c x y = c y x then none else some (D.tup [tuI x, tuI y])) = none → ∃ r', forD break_of_two_l1 ((mems up).map tuI) [.sh (tabD lo up c), .sh (.lst ((mems up).map tuI)), .sh (tuI x), s3] = .nx r' ∧ ∃ s, r' = [.sh (tabD lo up c), .sh (.lst ((mems up).map tuI)), .sh (tuI x), s])) := fun x hx s3 =>
    forD_find tuI (fun r => ∃ s, r = [.sh (tabD lo up c), .sh (.lst ((mems up).map tuI)), .sh (tuI x), s]) _ (fun y hy r ⟨s, e⟩ => by
      subst e
      have q1 := carry_ok (lo := lo) (c := c) (mem_mems.mp hx) (mem_mems.mp hy)
      have q2 := carry_ok (lo := lo) (c := c) (mem_mems.mp hy) (mem_mems.mp hx)
      have tabm : ∀ f : List D → Res D, mthD mt_carry (tabD lo up c) >>= (fun g => f []) = f [] := fun f => rfl
      by_cases e : c x y = c y x
      · rw [if_pos e]
        refine ⟨fun v h => (by cases h), fun _ => ⟨[.sh (tabD lo up c), .sh (.lst ((mems up).map tuI)), .sh (tuI x), .sh (tuI y)], ?_, _, rfl⟩⟩
        simp only [tabD] at q1 q2 ⊢
        simp [break_of_two_l1, mthD, mt_carry, q1, q2, neD_tI, e]
      · rw [if_neg e]
        refine ⟨fun v h => ?_, fun h => by cases h⟩
        cases h
        simp only [tabD] at q1 q2 ⊢
        simp [break_of_two_l1, mthD, mt_carry, q1, q2, neD_tI, e, l2]) ⟨_, rfl⟩
  have outer := forD_find (f := break_of_two_l2) tuI (fun r => ∃ s2 s3, r = [.sh (tabD lo up c), .sh (.lst ((mems up).map tuI)), s2, s3]) (fun x => (mems up).findSome? fun y => if c x y = c y x then none else some (D.tup [tuI x, tuI y])) (ds := mems up) (r := [.sh (tabD lo up c), .sh (.lst ((mems up).map tuI)), .un, .un]) (fun x hx r ⟨s2, s3, e⟩ => by
    subst e
    obtain ⟨h1, h2⟩ := inner x hx s3
    refine ⟨fun v h => ?_, fun h => ?_⟩
    · have := h1 v h
      simp [break_of_two_l2, this]
    · obtain ⟨r', e, s, rfl⟩ := h2 h
      exact ⟨[.sh (tabD lo up c), .sh (.lst ((mems up).map tuI)), .sh (tuI x), s], by simp [break_of_two_l2, e], _, _, rfl⟩) ⟨_, _, rfl⟩
  have fu : fldD (plOf [2] "upper") (tabD lo up c) = .ok (gR up) := fld_upper lo up _
  refine runD_rt rfl ?_
  simp only [startD, N_break_of_two, List.length_cons, List.length_nil, List.map_cons, List.map_nil, Nat.reduceAdd, Nat.reduceSub, Nat.zero_add, List.replicate, List.cons_append, List.nil_append]
  unfold break2
  cases hb : (mems up).findSome? fun x => (mems up).findSome? fun y => if c x y = c y x then none else some (D.tup [tuI x, tuI y]) with
  | some v =>
    have := outer.1 v hb
    simp [e_break_of_two, fu, mthD, mt_members, mt_members_T, m, this, orNon]
  | none =>
    obtain ⟨r', e, _⟩ := outer.2 hb
    simp [e_break_of_two, fu, mthD, mt_members, mt_members_T, m, e, orNon]
/-- the rule for three at three elements -/
def ruleAt (lo up : List Int) (c : List Int → List Int → List Int) (x y z : List Int) : Bool := decide (putV lo (c x y) (c (putV up x y) z) = putV lo (c y z) (c x (putV up y z)))
def break3 (lo up : List Int) (c : List Int → List Int → List Int) : Option D := (mems up).findSome? fun x => (mems up).findSome? fun y => (mems up).findSome? fun z => if ruleAt lo up c x y z = true then none else some (.tup [tuI x, tuI y, tuI z])
theorem break3_ok {lo up : List Int} {c : List Int → List Int → List Int} (g1 : OkG lo) (g2 : OkG up) (hc : OkC lo up c) : d_break_of_three [tabD lo up c] = .ok (orNon (break3 lo up c)) := by
  have m := members_ok g2.ok g2.most g2.prod
  have l3 : 3 ≤ lim := by decide
  let E (s4 s5 s6 s7 s8 : Slot) : Env := [.sh (tabD lo up c), .sh (gR lo), .sh (gR up), .sh (.lst ((mems up).map tuI)), s4, s5, s6, s7, s8]
  have in1 := fun (x y : List Int) (hx : x ∈ mems up) (hy : y ∈ mems up) (s6 s7 s8 : Slot) => forD_find (f := break_of_three_l1) tuI (fun r => ∃ s6 s7 s8, r = E (.sh (tuI x)) (.sh (tuI y)) s6 s7 s8) (fun z => if ruleAt lo up c x y z = true then none else some (D.tup [tuI x, tuI y, tuI z])) (ds := mems up) (r := E (.sh (tuI x)) (.sh (tuI y)) s6 s7 s8) (fun z hz r ⟨s6, s7, s8, e⟩ => by
      subst e
      have hx := mem_mems.mp hx
      have hy := mem_mems.mp hy
      have hz := mem_mems.mp hz
      have pxy := put_el g2.ok hx.len hy.len
      have pyz := put_el g2.ok hy.len hz.len
      have q1 := carry_ok (lo := lo) (c := c) hx hy
      have q2 := carry_ok (lo := lo) (c := c) pxy hz
      have q3 := carry_ok (lo := lo) (c := c) hy hz
      have q4 := carry_ok (lo := lo) (c := c) hx pyz
      have a1 := added_ok g2.ok hx hy
      have a2 := added_ok g2.ok hy hz
      have a3 := added_ok g1.ok (hc x y hx hy) (hc _ z pxy hz)
      have a4 := added_ok g1.ok (hc y z hy hz) (hc x _ hx pyz)
      unfold ruleAt
      simp only [tabD] at q1 q2 q3 q4
      by_cases e : putV lo (c x y) (c (putV up x y) z) = putV lo (c y z) (c x (putV up y z))
      · rw [if_pos (decide_eq_true e)]
        refine ⟨fun v h => (by cases h), fun _ => ⟨E (.sh (tuI x)) (.sh (tuI y)) (.sh (tuI z)) (.sh (tuI (putV lo (c x y) (c (putV up x y) z)))) (.sh (tuI (putV lo (c y z) (c x (putV up y z))))), ?_, _, _, _, rfl⟩⟩
        simp only [E, tabD]
        simp [break_of_three_l1, mthD, mt_carry, mt_added_T, q1, q2, q3, q4, a1, a2, a3, a4, neD_tI, e]
      · rw [if_neg (by simp [e])]
        refine ⟨fun v h => ?_, fun h => by cases h⟩
        cases h
        simp only [E, tabD]
        simp [break_of_three_l1, mthD, mt_carry, mt_added_T, q1, q2, q3, q4, a1, a2, a3, a4, neD_tI, e, l3]) ⟨_, _, _, rfl⟩
  have in2 := fun (x : List Int) (hx : x ∈ mems up) (s5 s6 s7 s8 : Slot) => forD_find (f := break_of_three_l2) tuI (fun r => ∃ s5 s6 s7 s8, r = E (.sh (tuI x)) s5 s6 s7 s8) (fun y => (mems up).findSome? fun z => if ruleAt lo up c x y z = true then none else some (D.tup [tuI x, tuI y, tuI z])) (ds := mems up) (r := E (.sh (tuI x)) s5 s6 s7 s8) (fun y hy r ⟨s5, s6, s7, s8, e⟩ => by
      subst e
      obtain ⟨h1, h2⟩ := in1 x y hx hy s6 s7 s8
      simp only [E] at h1 h2 ⊢
      refine ⟨fun v h => ?_, fun h => ?_⟩
      · have := h1 v h
        simp [break_of_three_l2, this]
      · obtain ⟨r', e, s6', s7', s8', rfl⟩ := h2 h
        exact ⟨E (.sh (tuI x)) (.sh (tuI y)) s6' s7' s8', by simp only [E] at e ⊢; simp [break_of_three_l2, e], _, _, _, _, rfl⟩) ⟨_, _, _, _, rfl⟩
  have in3 := forD_find (f := break_of_three_l3) tuI (fun r => ∃ s4 s5 s6 s7 s8, r = E s4 s5 s6 s7 s8) (fun x => (mems up).findSome? fun y => (mems up).findSome? fun z => if ruleAt lo up c x y z = true then none else some (D.tup [tuI x, tuI y, tuI z])) (ds := mems up) (r := E .un .un .un .un .un) (fun x hx r ⟨s4, s5, s6, s7, s8, e⟩ => by
      subst e
      obtain ⟨h1, h2⟩ := in2 x hx s5 s6 s7 s8
      simp only [E] at h1 h2 ⊢
      refine ⟨fun v h => ?_, fun h => ?_⟩
      · have := h1 v h
        simp [break_of_three_l3, this]
      · obtain ⟨r', e, s5', s6', s7', s8', rfl⟩ := h2 h
        exact ⟨E (.sh (tuI x)) s5' s6' s7' s8', by simp only [E] at e ⊢; simp [break_of_three_l3, e], _, _, _, _, _, rfl⟩) ⟨_, _, _, _, _, rfl⟩
  have fl : fldD (plOf [2] "lower") (tabD lo up c) = .ok (gR lo) := fld_lower lo up _
  have fu : fldD (plOf [2] "upper") (tabD lo up c) = .ok (gR up) := fld_upper lo up _
  refine runD_rt rfl ?_
  simp only [startD, N_break_of_three, List.length_cons, List.length_nil, List.map_cons, List.map_nil, Nat.reduceAdd, Nat.reduceSub, Nat.zero_add, List.replicate, List.cons_append, List.nil_append]
  unfold break3
  simp only [E] at in3
  cases hb : (mems up).findSome? fun x => (mems up).findSome? fun y => (mems up).findSome? fun z => if ruleAt lo up c x y z = true then none else some (D.tup [tuI x, tuI y, tuI z]) with
  | some v =>
    have := in3.1 v hb
    simp [e_break_of_three, fl, fu, mthD, mt_members, mt_members_T, m, this, orNon]
  | none =>
    obtain ⟨r', e, _⟩ := in3.2 hb
    simp [e_break_of_three, fl, fu, mthD, mt_members, mt_members_T, m, e, orNon]
theorem q_members_ok {rs : List Int} (h : OkR rs) (hb : ∀ n ∈ rs, n ≤ 144) (hp : rs.foldl (· * ·) 1 ≤ 144) : d_q_members [tuI rs] = .ok (.lst ((mems rs).map tuI)) := by
  have l7 := h.len
  have bound : ∀ (l : List Int) (S : List (List Int)), (∀ n ∈ l, 2 ≤ n) → S.length ≤ (l.foldl memsStep S).length := fun l => by
    induction l with
    | nil => intro S _; exact Nat.le_refl _
    | cons n l ih =>
      intro S hl
      have := ih (memsStep S n) fun m hm => hl m (List.mem_cons_of_mem _ hm)
      have hn := hl n List.mem_cons_self
      rw [step_len] at this
      have : S.length * 1 ≤ S.length * n.toNat := Nat.mul_le_mul_left _ (by omega)
      rw [List.foldl_cons]
      omega
  have tot : (mems rs).length ≤ 144 := by
    have := mems_len (rs := rs) fun n hn => by have := h.two n hn; omega
    omega
  have l1 : 1 ≤ lim := by decide
  -- the innermost walk
  have in1 : ∀ (n : Nat) (x : List Int) (F : List (List Int)) (s1 s2 s4 : Slot), x.length < 1000 → F.length + n ≤ 1000 → ∃ t, forD q_members_l1 (rangeL 0 n) [.sh (tuI rs), s1, s2, .ow .flat (.lst (F.map tuI)), .sh (tuI x), s4] = .nx [.sh (tuI rs), s1, s2, .ow .flat (.lst ((F ++ (List.range n).map fun i : Nat => x ++ [(i : Int)]).map tuI)), .sh (tuI x), t] := fun n x F s1 s2 s4 hx hF => by
    rw [rangeL_nat]
    obtain ⟨r', e, t, rfl⟩ := forD_row (pre0 := List.range n) (f := q_members_l1) (fun i : Nat => D.int i) (fun done r => ∃ t, r = [.sh (tuI rs), s1, s2, .ow .flat (.lst ((F ++ done.map fun i : Nat => x ++ [(i : Int)]).map tuI)), .sh (tuI x), t]) (ds := List.range n) (pre := []) (r := [.sh (tuI rs), s1, s2, .ow .flat (.lst (F.map tuI)), .sh (tuI x), s4]) (fun done i hd r ⟨t, e⟩ => by
      subst e
      obtain ⟨rest, hr⟩ := hd
      have hl := congrArg List.length hr
      simp at hl
      have ll : (F ++ done.map fun i : Nat => x ++ [(i : Int)]).length < lim := by simp; unfold lim; omega
      have lx : x.length + 1 ≤ lim := by unfold lim; omega
      refine ⟨[.sh (tuI rs), s1, s2, .ow .flat (.lst ((F ++ (done ++ [i]).map fun i : Nat => x ++ [(i : Int)]).map tuI)), .sh (tuI x), .sh (.int i)], ?_, _, rfl⟩
      have eq : (F ++ (done ++ [i]).map fun i : Nat => x ++ [(i : Int)]) = (F ++ done.map fun i : Nat => x ++ [(i : Int)]) ++ [x ++ [(i : Int)]] := by simp
      rw [eq]
      generalize (F ++ done.map fun i : Nat => x ++ [(i : Int)]) = L at *
      simp [q_members_l1, appG, ownL, lx, l1, ll]) (by simp) ⟨s4, by simp⟩
    exact ⟨t, by simpa using e⟩
  obtain ⟨r', loop, s2, s3, s4, s5, rfl⟩ := forD_row (pre0 := rs) (f := q_members_l3) D.int (fun pre r => ∃ s2 s3 s4 s5, r = [.sh (tuI rs), .sh (.lst ((mems pre).map tuI)), s2, s3, s4, s5]) (ds := rs) (pre := []) (r := [.sh (tuI rs), .sh (.lst [.tup []]), .un, .un, .un, .un]) (fun pre n hpre r ⟨s2, s3, s4, s5, e⟩ => by
    subst e
    obtain ⟨post, hpost⟩ := hpre
    have hn : n ∈ rs := by rw [← hpost]; simp
    have n2 := h.two n hn
    have n3 := hb n hn
    have elen : ∀ x ∈ mems pre, x.length < 1000 := fun x hx => by
      have := (mem_mems.mp hx).len
      have := congrArg List.length hpost
      simp at this
      omega
    have small : (memsStep (mems pre) n).length ≤ 144 := by
      have e : mems rs = post.foldl memsStep (memsStep (mems pre) n) := by
        unfold mems
        rw [← hpost, List.foldl_append, List.foldl_append]
        rfl
      have := bound post (memsStep (mems pre) n) fun m hm => h.two m (by rw [← hpost]; simp [hm])
      rw [← e] at this
      omega
    have r1 : rng1 [.int n] = .ok (rangeL 0 n.toNat) := rng1_ok (by omega) (by omega)
    obtain ⟨r2, in2, t4, t5, rfl⟩ := forD_row (pre0 := mems pre) (f := q_members_l2) tuI (fun done r => ∃ t4 t5, r = [.sh (tuI rs), .sh (.lst ((mems pre).map tuI)), .sh (.int n), .ow .flat (.lst ((memsStep done n).map tuI)), t4, t5]) (ds := mems pre) (pre := []) (r := [.sh (tuI rs), .sh (.lst ((mems pre).map tuI)), .sh (.int n), .ow .flat (.lst []), s4, s5]) (fun done x hd r ⟨t4, t5, e⟩ => by
      subst e
      obtain ⟨rest, hr⟩ := hd
      have hx : x ∈ mems pre := by rw [← hr]; simp
      have eq : memsStep (done ++ [x]) n = memsStep done n ++ (List.range n.toNat).map fun i : Nat => x ++ [(i : Int)] := by
        unfold memsStep
        simp
      have le : (memsStep done n).length + n.toNat ≤ 1000 := by
        have : (memsStep done n).length + n.toNat = (memsStep (done ++ [x]) n).length := by rw [eq]; simp
        rw [this, step_len]
        rw [step_len, ← hr] at small
        simp at small
        have : (done ++ [x]).length * n.toNat ≤ (done.length + (rest.length + 1)) * n.toNat := Nat.mul_le_mul_right _ (by simp)
        omega
      obtain ⟨t, q⟩ := in1 n.toNat x (memsStep done n) (.sh (.lst ((mems pre).map tuI))) (.sh (.int n)) t5 (elen x hx) le
      refine ⟨_, ?_, .sh (tuI x), t, rfl⟩
      rw [eq]
      generalize ((List.range n.toNat).map fun i : Nat => x ++ [(i : Int)]) = L at *
      simp [q_members_l2, r1, q]) rfl ⟨_, _, rfl⟩
    refine ⟨[.sh (tuI rs), .sh (.lst ((mems (pre ++ [n])).map tuI)), .sh (.int n), .sh (.lst ((memsStep (mems pre) n).map tuI)), t4, t5], ?_, _, _, _, _, rfl⟩
    have eq : mems (pre ++ [n]) = memsStep (mems pre) n := by unfold mems; rw [List.foldl_append]; rfl
    simp only [List.nil_append] at in2
    rw [eq]
    simp [q_members_l3, in2, freeze]) rfl ⟨_, _, _, _, rfl⟩
  simp only [List.nil_append] at loop
  have l0 : 0 ≤ lim := by decide
  first | refine runD_rt rfl ?_ | refine runO_rt rfl ?_
  simp only [startD, N_q_members, List.length_cons, List.length_nil, List.map_cons, List.map_nil, Nat.reduceAdd, Nat.reduceSub, Nat.zero_add, List.replicate, List.cons_append, List.nil_append]
  simp [e_q_members, loop, l0, l1]
theorem q_added_ok {rs x y : List Int} (h : OkR rs) (hx : OkE rs x) (hy : OkE rs y) : d_q_added [tuI rs, tuI x, tuI y] = .ok (tuI (putV rs x y)) := by
  refine runD_rt rfl ?_
  simp only [startD, N_q_added, List.length_cons, List.length_nil, List.map_cons, List.map_nil, Nat.reduceAdd, Nat.reduceSub, Nat.zero_add, List.replicate, List.cons_append, List.nil_append]
  have l7 := h.len
  have r1 : rng1 [.int rs.length] = .ok (rangeL 0 rs.length) := by rw [rng1_ok (by omega) (by omega)]; simp
  have lt := putV_len hx.len hy.len
  have c : q_added_c1 [.sh (tuI rs), .sh (tuI x), .sh (tuI y), .un] (rangeL 0 rs.length) = .ok ((putV rs x y).map .int) := by
    unfold q_added_c1
    rw [← lt]
    refine lcD_places (putV rs x y) fun i hi => ⟨_, rfl, rfl, ?_⟩
    rw [lt] at hi
    have e1 := ixD_tI (xs := x) (i := i) (by rw [hx.len]; exact hi)
    have e3 := ixD_tI (xs := y) (i := i) (by rw [hy.len]; exact hi)
    have e2 := ixD_tI (xs := rs) (i := i) hi
    have r2 := h.get hi
    have md := modD_ok (i := x.getD i 0 + y.getD i 0) (j := rs.getD i 0) (by omega)
    rw [putV_at hi hx.len hy.len]
    simp [-ixD_tup, -List.getD_eq_getElem?_getD, wipeR, e1, e2, e3, md]
  have hl : (putV rs x y).length ≤ lim := by rw [lt]; unfold lim; omega
  simp [e_q_added, r1, c, hl]
theorem q_times_ok {rs x : List Int} {n : Int} (h : OkR rs) (hx : OkE rs x) (hb : ∀ n ∈ rs, n ≤ 144) : d_q_times [tuI rs, .int n, tuI x] = .ok (tuI (timesV rs n x)) := by
  refine runD_rt rfl ?_
  simp only [startD, N_q_times, List.length_cons, List.length_nil, List.map_cons, List.map_nil, Nat.reduceAdd, Nat.reduceSub, Nat.zero_add, List.replicate, List.cons_append, List.nil_append]
  have l7 := h.len
  have r1 : rng1 [.int rs.length] = .ok (rangeL 0 rs.length) := by rw [rng1_ok (by omega) (by omega)]; simp
  have lt := timesV_len rs x n hx.len
  have c : q_times_c1 [.sh (tuI rs), .sh (.int n), .sh (tuI x), .un] (rangeL 0 rs.length) = .ok ((timesV rs n x).map .int) := by
    unfold q_times_c1
    rw [← lt]
    refine lcD_places (timesV rs n x) fun i hi => ⟨_, rfl, rfl, ?_⟩
    rw [lt] at hi
    have e1 := ixD_tI (xs := x) (i := i) (by rw [hx.len]; exact hi)
    have e2 := ixD_tI (xs := rs) (i := i) hi
    have r2 := h.get hi
    have e3 : rs[i]? = some (rs.getD i 0) := by rw [List.getD_eq_getElem?_getD, List.getElem?_eq_getElem hi]; rfl
    have r3 := hb _ (List.mem_of_getElem? e3)
    obtain ⟨a, b⟩ := hx.get hi
    have m := mulD_small (i := n) (j := x.getD i 0) (.inr ⟨by omega, by omega⟩)
    have md := modD_ok (i := n * x.getD i 0) (j := rs.getD i 0) (by omega)
    rw [timesV_at hi hx.len]
    simp [-ixD_tup, -List.getD_eq_getElem?_getD, wipeR, e1, e2, m, md]
  have hl : (timesV rs n x).length ≤ lim := by rw [lt]; unfold lim; omega
  simp [e_q_times, r1, c, hl]
theorem OkT.prs_le {lo up : List Int} (t : OkT lo up) : (mems up).length * (mems up).length ≤ 81 := Nat.mul_le_mul t.mems_le t.mems_le
theorem timesV_el {rs x : List Int} {n : Int} (h : OkR rs) (hx : OkE rs x) : OkE rs (timesV rs n x) := by
  refine ⟨timesV_len rs x n hx.len, fun p hp => ?_⟩
  obtain ⟨i, hi, e⟩ := List.getElem_of_mem hp
  have lt := timesV_len rs x n hx.len
  have hr : i < rs.length := by rw [List.length_zip, lt, Nat.min_self] at hi; exact hi
  rw [List.getElem_zip] at e
  subst e
  have q := timesV_at (n := n) hr hx.len
  have g := h.get hr
  rw [List.getD_eq_getElem?_getD, List.getElem?_eq_getElem (by omega)] at q g
  simp only [List.getD_eq_getElem?_getD, List.getElem?_eq_getElem hr, Option.getD_some] at q g
  show 0 ≤ (timesV rs n x)[i] ∧ (timesV rs n x)[i] < rs[i]
  rw [q]
  exact ⟨Int.emod_nonneg _ (by omega), Int.emod_lt_of_pos _ (by omega)⟩
theorem q_gcd_ok (a b : Nat) (hb : b < 100000) : d_q_gcd [.int a, .int b] = .ok (.int (Nat.gcd a b : Nat)) := by
  refine runD_rt rfl ?_
  simp only [startD, N_q_gcd, List.length_cons, List.length_nil, List.map_cons, List.map_nil, Nat.reduceAdd, Nat.reduceSub, Nat.zero_add, List.replicate, List.cons_append, List.nil_append]
  obtain ⟨r', loop, s1, rfl⟩ := loopD_down (c := q_gcd_w1c) (b := q_gcd_w1) (fun k r => ∃ (x y : Nat), r = [.sh (.int x), .sh (.int y)] ∧ y ≤ k ∧ Nat.gcd x y = Nat.gcd a b) (fun r => ∃ s1, r = [.sh (.int (Nat.gcd a b : Nat)), s1]) (by
    rintro k r ⟨x, y, rfl, hk, hg⟩
    by_cases hy : y = 0
    · subst hy
      rw [Nat.gcd_zero_right] at hg
      exact .inl ⟨by simp [q_gcd_w1c], _, by rw [hg]⟩
    · have hy' : 0 < y := by omega
      have l := Nat.mod_lt x hy'
      refine .inr ⟨k - 1, [.sh (.int y), .sh (.int ((x % y : Nat) : Int))], by omega, by simp [q_gcd_w1c, hy], ?_, y, x % y, rfl, by omega, ?_⟩
      · have md := modD_ok (i := x) (j := y) (by omega)
        simp [q_gcd_w1, md, parG]
      · rw [← hg, Nat.gcd_comm x y, Nat.gcd_rec y x, Nat.gcd_comm]) (k := b) (r := [.sh (.int a), .sh (.int b)]) ⟨a, b, rfl, Nat.le_refl _, rfl⟩ (by omega)
  simp [e_q_gcd, loop]
theorem getC {lo up : List Int} (c : List Int → List Int → List Int) {x y : List Int} (hx : OkE up x) (hy : OkE up y) : ixD (dicF pkD tuI (prs up) fun p => c p.1 p.2) (.tup [tuI x, tuI y]) = .ok (tuI (c x y)) := by
  have l : lookA ((prs up).map fun p => (p, c p.1 p.2)) (x, y) = some (c x y) := lookA_map (fun p : List Int × List Int => c p.1 p.2) (mem_prs.mpr ⟨mem_mems.mpr hx, mem_mems.mpr hy⟩)
  exact ixD_A (V := tuI) keyP ((prs up).map fun p => (p, c p.1 p.2)) (x, y) l
theorem up_at {lo up : List Int} (t : OkT lo up) {i : Nat} (hi : i < up.length) : up.getD i 0 ≤ 144 := by
  have e3 : up[i]? = some (up.getD i 0) := by rw [List.getD_eq_getElem?_getD, List.getElem?_eq_getElem hi]; rfl
  exact t.g2.most _ (List.mem_of_getElem? e3)
theorem seq_nx {o : Oc} {B : Env → Oc} {v : D} {r1 : Env} (h : o = .nx r1) (k : B r1 = .rt v) : o.seq B = .rt v := by rw [h]; exact k
theorem OkT.ofM {lo up : List Int} {a b : Int} (h1 : OkM a lo) (h2 : OkM b up) (ha : a ≤ 16) (hb : b ≤ 9) : OkT lo up := ⟨h1.ok, h2.ok, by have := h1.prod; omega, by have := h2.prod; omega⟩
theorem tableC_ok {lo up : List Int} {c : List Int → List Int → List Int} (t : OkT lo up) (hc : OkC lo up c) : d_Table_init [gR lo, gR up, dicF pkD tuI (prs up) fun p => c p.1 p.2] = .ok (tabD lo up c) :=
  table_ok t _ fun x y hx hy => by
    have hm : (x, y) ∈ prs up := mem_prs.mpr ⟨mem_mems.mpr hx, mem_mems.mpr hy⟩
    refine ⟨?_, ixD_A (V := tuI) keyP _ (x, y) (lookA_map (fun p => c p.1 p.2) hm), hc x y hx hy⟩
    rw [notInD_A keyP, hasA_map]
    simp [hm]
def cD (up : List Int) (c : List Int → List Int → List Int) : D := dicF pkD tuI (prs up) fun p => c p.1 p.2
theorem okQ_rowsC (n : Nat) (R : List (List Int)) : (R.map tuI).all (okQ (n + 1)) = true := by
  rw [List.all_map, List.all_eq_true]
  exact fun x _ => okQ_tI n x
theorem emod_w (x m : Int) : ∃ q, x % m = x + m * q := ⟨-(x / m), by rw [Int.emod_def, Int.mul_neg]; omega⟩
theorem emod_of {a b m : Int} (q : Int) (h : a = b + m * q) : a % m = b % m := by rw [h, Int.add_mul_emod_self_left]
theorem eqD_refl {d : D} (h : okQ 64 d = true) : eqD d d = .ok (.bl true) := by rw [eqD_ok h h, eqQ_refl 64 _ h]
theorem neD_refl {d : D} (h : okQ 64 d = true) : neD d d = .ok (.bl false) := by rw [neD_ok h h, eqQ_refl 64 _ h]; rfl
theorem put_cancel {lo z a b : List Int} (g : OkR lo) (hz : OkE lo z) (ha : OkE lo a) (hb : OkE lo b) (e : putV lo z a = putV lo z b) : a = b := by
  have key : ∀ v, OkE lo v → putV lo (putV lo z v) (timesV lo (-1) z) = v := fun v hv => by
    rw [putV_comm hz.len hv.len, putV_assoc hv.len hz.len (timesV_len lo _ _ hz.len), put_back hz.len, put_zero hv]
  rw [← key a ha, ← key b hb, e]
/-- the pairs that are a tower's elements -/
def towE (lo up : List Int) : List (List Int × List Int) := (mems lo).flatMap fun a => (mems up).map fun x => (a, x)
theorem runI_er {p n c : Nat} {g : Env → Oc} {ds : List D} {r : Env} {d : D} (h : ds.length = p) (e : g (startI n c ds) = .er d r) : runI p n c g ds = .er d := by
  unfold runI
  rw [if_pos h, e]
/-- the tower of a table -/
abbrev towD (lo up : List Int) (c : List Int → List Int → List Int) : D := .obj 1 [tabD lo up c, tuI (c (zeroV up) (zeroV up))]
theorem fld_table (T g : D) : fldD (plOf [1] "table") (.obj 1 [T, g]) = .ok T := by kernel_rfl
theorem fld_lowerT (lo up : List Int) (c : List Int → List Int → List Int) : fldD (plOf [2] "lower") (tabD lo up c) = .ok (gR lo) := fld_lower lo up _
theorem fld_upperT (lo up : List Int) (c : List Int → List Int → List Int) : fldD (plOf [2] "upper") (tabD lo up c) = .ok (gR up) := fld_upper lo up _
theorem three_none {lo up : List Int} {c : List Int → List Int → List Int} (h3 : Three lo up c) : break3 lo up c = none := by
  unfold break3
  rw [List.findSome?_eq_none_iff]
  intro x hx
  rw [List.findSome?_eq_none_iff]
  intro y hy
  rw [List.findSome?_eq_none_iff]
  intro z hz
  have := h3 x y z (mem_mems.mp hx) (mem_mems.mp hy) (mem_mems.mp hz)
  unfold ruleAt
  rw [if_pos (decide_eq_true this)]
theorem tower_ok {lo up : List Int} {c : List Int → List Int → List Int} (t : OkT lo up) (hc : OkC lo up c) (hb : break3 lo up c = none) : d_Tower_init [tabD lo up c] = .ok (towD lo up c) := by
  have b := break3_ok t.g1 t.g2 hc
  rw [hb] at b
  have z := nought_ok t.g2.ok
  have ze := zero_el t.g2.ok
  have cr := carry_ok (lo := lo) (c := c) ze ze
  have fu := fld_upperT lo up c
  have b : d_break_of_three [tabD lo up c] = .ok .non := b
  have mc : ∀ ds : List D, (mthD mt_carry (tabD lo up c) >>= fun g => g ds) = d_Table_carry (tabD lo up c :: ds) := fun ds => rfl
  have mn : (mthD mt_nought (gR up) >>= fun g => g []) = d_Rounds_nought [gR up] := rfl
  have e1 : e_Tower_init (startI N_Tower_init.length 1 [tabD lo up c]) = .nx [.ow .flat (towD lo up c), .sh (tabD lo up c), .sh .non] := by
    have st : startI N_Tower_init.length 1 [tabD lo up c] = [.ow .flat (.obj 1 []), .sh (tabD lo up c), .un] := rfl
    rw [st]
    have f0 : setF 0 1 "table" .sh (tabD lo up c) [.ow .flat (.obj 1 []), .sh (tabD lo up c), .sh .non] = .nx [.ow .flat (.obj 1 [tabD lo up c]), .sh (tabD lo up c), .sh .non] := by kernel_rfl
    have f1 : setF 0 1 "ground" .sh (tuI (c (zeroV up) (zeroV up))) [.ow .flat (.obj 1 [tabD lo up c]), .sh (tabD lo up c), .sh .non] = .nx [.ow .flat (towD lo up c), .sh (tabD lo up c), .sh .non] := by kernel_rfl
    have nn : notN .non .non = .ok (.bl false) := by kernel_rfl
    have mcs : mthD mt_carry (tabD lo up c) = .ok (fun ds => d_Table_carry (tabD lo up c :: ds)) := rfl
    generalize towD lo up c = TW at *
    generalize tuI (c (zeroV up) (zeroV up)) = G at *
    generalize tabD lo up c = T at *
    generalize gR up = GU at *
    generalize tuI (zeroV up) = Z at *
    simp [e_Tower_init, b, nn, f0, f1, fu, mcs, mn, z, cr]
  exact runI_nx rfl e1
/-- the sum of two elements of a tower -/
def putT (lo up : List Int) (c : List Int → List Int → List Int) (p q : List Int × List Int) : List Int × List Int := (putV lo (putV lo p.1 q.1) (c p.2 q.2), putV up p.2 q.2)
abbrev OkTE (lo up : List Int) (p : List Int × List Int) : Prop := OkE lo p.1 ∧ OkE up p.2
theorem putT_el {lo up : List Int} {c : List Int → List Int → List Int} (t : OkT lo up) (hc : OkC lo up c) {p q : List Int × List Int} (hp : OkTE lo up p) (hq : OkTE lo up q) : OkTE lo up (putT lo up c p q) :=
  ⟨put_el t.g1.ok (putV_len hp.1.len hq.1.len) (hc _ _ hp.2 hq.2).len, put_el t.g2.ok hp.2.len hq.2.len⟩
theorem pk0 (p : List Int × List Int) : ixD (pkD p) (.int 0) = .ok (tuI p.1) := rfl
theorem pk1 (p : List Int × List Int) : ixD (pkD p) (.int 1) = .ok (tuI p.2) := rfl
theorem tput_ok {lo up : List Int} {c : List Int → List Int → List Int} (t : OkT lo up) (hc : OkC lo up c) {p q : List Int × List Int} (hp : OkTE lo up p) (hq : OkTE lo up q) : d_Tower_put [towD lo up c, pkD p, pkD q] = .ok (pkD (putT lo up c p q)) := by
  have cr := carry_ok (lo := lo) (c := c) hp.2 hq.2
  have a1 := put_ok (rs := lo) t.g1.ok hp.1.len hq.1.len
  have a2 := put_ok (rs := lo) t.g1.ok (putV_len hp.1.len hq.1.len) (hc _ _ hp.2 hq.2).len
  have a3 := put_ok (rs := up) t.g2.ok hp.2.len hq.2.len
  have ft : fldD (plOf [1] "table") (towD lo up c) = .ok (tabD lo up c) := fld_table (tabD lo up c) (tuI (c (zeroV up) (zeroV up)))
  have fl := fld_lowerT lo up c
  have fu := fld_upperT lo up c
  have p0 := pk0 p
  have p1 := pk1 p
  have q0 := pk0 q
  have q1 := pk1 q
  have l2 : 2 ≤ lim := by decide
  have mc : mthD mt_carry (tabD lo up c) = .ok (fun ds => d_Table_carry (tabD lo up c :: ds)) := rfl
  have ml : mthD mt_put (gR lo) = .ok (fun ds => d_Rounds_put (gR lo :: ds)) := rfl
  have mu : mthD mt_put (gR up) = .ok (fun ds => d_Rounds_put (gR up :: ds)) := rfl
  refine runD_rt rfl ?_
  simp only [startD, N_Tower_put, List.length_cons, List.length_nil, List.map_cons, List.map_nil, Nat.reduceAdd, Nat.reduceSub, Nat.zero_add, List.replicate, List.cons_append, List.nil_append]
  show _ = Oc.rt (.tup [tuI (putV lo (putV lo p.1 q.1) (c p.2 q.2)), tuI (putV up p.2 q.2)])
  generalize towD lo up c = TW at *
  generalize tabD lo up c = T at *
  generalize putV lo (putV lo p.1 q.1) (c p.2 q.2) = v at *
  generalize putV lo p.1 q.1 = u at *
  generalize putV up p.2 q.2 = w at *
  generalize pkD p = P at *
  generalize pkD q = Q at *
  generalize gR lo = GL at *
  generalize gR up = GU at *
  simp [e_Tower_put, ft, fl, fu, p0, p1, q0, q1, mc, cr, ml, a1, a2, mu, a3, l2]
theorem thas_ok {lo up : List Int} {c : List Int → List Int → List Int} {p : List Int × List Int} (hp : OkTE lo up p) : d_Tower_has [towD lo up c, pkD p] = .ok (.bl true) := by
  have h1 := has_ok hp.1
  have h2 := has_ok hp.2
  have ft : fldD (plOf [1] "table") (towD lo up c) = .ok (tabD lo up c) := fld_table (tabD lo up c) (tuI (c (zeroV up) (zeroV up)))
  have fl := fld_lowerT lo up c
  have fu := fld_upperT lo up c
  have p0 := pk0 p
  have p1 := pk1 p
  have it : isD isC isU (pkD p) (.ty "tuple") = .ok (.bl true) := by kernel_rfl
  have ln : lenD (pkD p) = .ok (.int 2) := rfl
  have ml : mthD mt_has (gR lo) = .ok (fun ds => d_Rounds_has (gR lo :: ds)) := rfl
  have mu : mthD mt_has (gR up) = .ok (fun ds => d_Rounds_has (gR up :: ds)) := rfl
  refine runD_rt rfl ?_
  simp only [startD, N_Tower_has, List.length_cons, List.length_nil, List.map_cons, List.map_nil, Nat.reduceAdd, Nat.reduceSub, Nat.zero_add, List.replicate, List.cons_append, List.nil_append]
  generalize towD lo up c = TW at *
  generalize tabD lo up c = T at *
  generalize pkD p = P at *
  generalize gR lo = GL at *
  generalize gR up = GU at *
  simp [e_Tower_has, it, ln, ft, fl, fu, p0, p1, ml, h1, mu, h2]
theorem tlook_ok {lo up : List Int} {c : List Int → List Int → List Int} {p : List Int × List Int} (hp : OkTE lo up p) : d_Group_look_at_1 [towD lo up c, pkD p] = .ok .non := by
  have h := thas_ok (c := c) hp
  have m : mthD mt_has_T (towD lo up c) = .ok (fun ds => d_Tower_has (towD lo up c :: ds)) := rfl
  refine runD_nx (r := [.sh (towD lo up c), .sh (pkD p)]) rfl ?_
  simp only [startD, N_Group_look_at, List.length_cons, List.length_nil, List.map_cons, List.map_nil, Nat.reduceAdd, Nat.reduceSub, Nat.zero_add, List.replicate, List.cons_append, List.nil_append]
  generalize towD lo up c = TW at *
  generalize pkD p = P at *
  simp [e_Group_look_at_1, m, h]
theorem tadded_ok {lo up : List Int} {c : List Int → List Int → List Int} (t : OkT lo up) (hc : OkC lo up c) {p q : List Int × List Int} (hp : OkTE lo up p) (hq : OkTE lo up q) : d_Group_added_1 [towD lo up c, pkD p, pkD q] = .ok (pkD (putT lo up c p q)) := by
  have h1 := tlook_ok (c := c) hp
  have h2 := tlook_ok (c := c) hq
  have pt := tput_ok t hc hp hq
  have m : mthD mt_look_at_T (towD lo up c) = .ok (fun ds => d_Group_look_at_1 (towD lo up c :: ds)) := rfl
  have m2 : mthD mt_put_T (towD lo up c) = .ok (fun ds => d_Tower_put (towD lo up c :: ds)) := rfl
  refine runD_rt rfl ?_
  simp only [startD, N_Group_added, List.length_cons, List.length_nil, List.map_cons, List.map_nil, Nat.reduceAdd, Nat.reduceSub, Nat.zero_add, List.replicate, List.cons_append, List.nil_append]
  generalize pkD (putT lo up c p q) = R at *
  generalize towD lo up c = TW at *
  generalize pkD p = P at *
  generalize pkD q = Q at *
  simp [e_Group_added_1, m, h1, h2, m2, pt]
theorem teven_ok {lo up : List Int} {c : List Int → List Int → List Int} (t : OkT lo up) : d_Tower_is_even [towD lo up c] = .ok (.bl (break2 up c).isNone) := by
  have b := break2_ok (lo := lo) (c := c) t.g2
  have ft : fldD (plOf [1] "table") (towD lo up c) = .ok (tabD lo up c) := fld_table (tabD lo up c) (tuI (c (zeroV up) (zeroV up)))
  refine runD_rt rfl ?_
  simp only [startD, N_Tower_is_even, List.length_cons, List.length_nil, List.map_cons, List.map_nil, Nat.reduceAdd, Nat.reduceSub, Nat.zero_add, List.replicate, List.cons_append, List.nil_append]
  generalize towD lo up c = TW at *
  generalize tabD lo up c = T at *
  cases hb : break2 up c with
  | none =>
    rw [hb] at b
    simp [e_Tower_is_even, ft, b, orNon, isN]
  | some v =>
    rw [hb] at b
    have hv : isN v .non = .ok (.bl false) := by
      unfold break2 at hb
      obtain ⟨x, _, h⟩ := List.exists_of_findSome?_eq_some hb
      obtain ⟨y, _, h⟩ := List.exists_of_findSome?_eq_some h
      split at h <;> cases h
      rfl
    simp [e_Tower_is_even, ft, b, orNon, hv]
theorem break2_none {up : List Int} {c : List Int → List Int → List Int} : break2 up c = none ↔ ∀ x y, OkE up x → OkE up y → c x y = c y x := by
  unfold break2
  rw [List.findSome?_eq_none_iff]
  refine ⟨fun h x y hx hy => ?_, fun h x hx => ?_⟩
  · have h := h x (mem_mems.mpr hx)
    rw [List.findSome?_eq_none_iff] at h
    have h := h y (mem_mems.mpr hy)
    by_cases e : c x y = c y x
    · exact e
    · rw [if_neg e] at h; cases h
  · rw [List.findSome?_eq_none_iff]
    intro y hy
    rw [if_pos (h x y (mem_mems.mp hx) (mem_mems.mp hy))]
theorem fld_tableT {lo up : List Int} {c : List Int → List Int → List Int} : fldD (plOf [1] "table") (towD lo up c) = .ok (tabD lo up c) := fld_table _ _
theorem tmembers_ok {lo up : List Int} {c : List Int → List Int → List Int} (t : OkT lo up) : d_Tower_members [towD lo up c] = .ok (.lst ((towE lo up).map pkD)) := by
  have m1 := members_ok t.g1.ok t.g1.most t.g1.prod
  have m2 := members_ok t.g2.ok t.g2.most t.g2.prod
  have ft := fld_tableT (lo := lo) (up := up) (c := c)
  have fl := fld_lowerT lo up c
  have fu := fld_upperT lo up c
  have ml : mthD mt_members (gR lo) = .ok (fun ds => d_Rounds_members (gR lo :: ds)) := rfl
  have mu : mthD mt_members (gR up) = .ok (fun ds => d_Rounds_members (gR up :: ds)) := rfl
  have mll : (mems lo).length ≤ 16 := by
    have := mems_len (rs := lo) fun n hn => by have := t.g1.ok.two n hn; omega
    have := t.p1
    omega
  have muu := t.mems_le
  have l0 : 0 ≤ lim := by decide
  have l2 : 2 ≤ lim := by decide
  obtain ⟨r1, lp, s2, rfl⟩ := forD_row (pre0 := mems lo) (f := Tower_members_l2) tuI (fun done r => ∃ s2, r = [.sh (towD lo up c), .ow .flat (.lst ((done.flatMap fun a => (mems up).map fun x => (a, x)).map pkD)), s2, .un]) (ds := mems lo) (pre := []) (r := [.sh (towD lo up c), .ow .flat (.lst []), .un, .un]) (fun done a hd r ⟨s2, e⟩ => by
    subst e
    obtain ⟨rest, hr⟩ := hd
    have dl := congrArg List.length hr
    simp at dl
    have c1 : ∀ xs : D, Tower_members_c1 [.sh (towD lo up c), .ow .flat xs, .sh (tuI a), .un] ((mems up).map tuI) = .ok ((mems up).map fun x => pkD (a, x)) := fun xs => by
      unfold Tower_members_c1
      refine lcD_gmap tuI _ fun x hx => ⟨[.sh (towD lo up c), .ow .flat xs, .sh (tuI a), .sh (tuI x)], rfl, rfl, ?_⟩
      show _ = Res.ok (D.tup [tuI a, tuI x])
      generalize tuI a = A at *
      generalize tuI x = X at *
      simp [l2]
    have ln : (done.flatMap fun a => (mems up).map fun x => (a, x)).length = done.length * (mems up).length := by
      rw [List.length_flatMap]
      simp [sum_const]
    have le : ((done.flatMap fun a => (mems up).map fun x => (a, x)).map pkD).length + ((mems up).map fun x => pkD (a, x)).length ≤ lim := by
      rw [List.length_map, ln, List.length_map]
      have := Nat.mul_le_mul (show done.length ≤ 16 by omega) muu
      unfold lim
      omega
    have lb : ((mems up).map fun x => pkD (a, x)).length ≤ lim := by rw [List.length_map]; unfold lim; omega
    refine ⟨_, ?_, .sh (tuI a), rfl⟩
    have eq : ((done ++ [a]).flatMap fun a => (mems up).map fun x => (a, x)).map pkD = ((done.flatMap fun a => (mems up).map fun x => (a, x)).map pkD) ++ ((mems up).map fun x => pkD (a, x)) := by simp
    rw [eq]
    generalize ((done.flatMap fun a => (mems up).map fun x => (a, x)).map pkD) = xs at *
    have c1 := c1 (.lst xs)
    generalize ((mems up).map fun x => pkD (a, x)) = ys at *
    have it : itemsD (.lst ((mems up).map tuI)) = .ok ((mems up).map tuI) := rfl
    generalize D.lst ((mems up).map tuI) = M at *
    generalize towD lo up c = TW at *
    generalize tabD lo up c = T at *
    generalize gR up = GU at *
    generalize tuI a = A at *
    simp [Tower_members_l2, extG, ownL, ft, fu, mu, m2, it, c1, le, lb]) rfl ⟨.un, by simp⟩
  simp only [List.nil_append] at lp
  first | refine runD_rt rfl ?_ | refine runO_rt rfl ?_
  simp only [startD, N_Tower_members, List.length_cons, List.length_nil, List.map_cons, List.map_nil, Nat.reduceAdd, Nat.reduceSub, Nat.zero_add, List.replicate, List.cons_append, List.nil_append]
  have it : itemsD (.lst ((mems lo).map tuI)) = .ok ((mems lo).map tuI) := rfl
  show _ = Oc.rt (.lst (((mems lo).flatMap fun a => (mems up).map fun x => (a, x)).map pkD))
  generalize ((mems lo).flatMap fun a => (mems up).map fun x => (a, x)).map pkD = ZS at *
  generalize D.lst ((mems lo).map tuI) = M at *
  generalize towD lo up c = TW at *
  generalize tabD lo up c = T at *
  generalize gR lo = GL at *
  simp [e_Tower_members, ft, fl, ml, m1, it, lp, l0, giveG, freeze, frzAt]
theorem tsize_ok {lo up : List Int} {c : List Int → List Int → List Int} (t : OkT lo up) : d_Group_size_1 [towD lo up c] = .ok (.int ((towE lo up).length : Nat)) := by
  have m := tmembers_ok (c := c) t
  have mt : mthD mt_members_T (towD lo up c) = .ok (fun ds => d_Tower_members (towD lo up c :: ds)) := rfl
  refine runD_rt rfl ?_
  simp only [startD, N_Group_size, List.length_cons, List.length_nil, List.map_cons, List.map_nil, Nat.reduceAdd, Nat.reduceSub, Nat.zero_add, List.replicate, List.cons_append, List.nil_append]
  generalize towD lo up c = TW at *
  simp [e_Group_size_1, mt, m]
/-- the nought of a tower -/
def zeroT (lo up : List Int) (c : List Int → List Int → List Int) : List Int × List Int := (backV lo (c (zeroV up) (zeroV up)), zeroV up)
/-- the back of an element of a tower -/
def backT (lo up : List Int) (c : List Int → List Int → List Int) (p : List Int × List Int) : List Int × List Int := (backV lo (putV lo p.1 (putV lo (c p.2 (backV up p.2)) (c (zeroV up) (zeroV up)))), backV up p.2)
theorem backT_el {lo up : List Int} {c : List Int → List Int → List Int} (t : OkT lo up) (hc : OkC lo up c) {p : List Int × List Int} (hp : OkTE lo up p) : OkTE lo up (backT lo up c p) := by
  have z := zero_el t.g2.ok
  have hb := back_el t.g2.ok hp.2.len
  exact ⟨back_el t.g1.ok (putV_len hp.1.len (putV_len (hc _ _ hp.2 hb).len (hc _ _ z z).len)), hb⟩
theorem zeroT_el {lo up : List Int} {c : List Int → List Int → List Int} (t : OkT lo up) (hc : OkC lo up c) : OkTE lo up (zeroT lo up c) := ⟨back_el t.g1.ok (hc _ _ (zero_el t.g2.ok) (zero_el t.g2.ok)).len, zero_el t.g2.ok⟩
theorem put_backV {rs x : List Int} (h : OkR rs) (hl : x.length = rs.length) : putV rs x (backV rs x) = zeroV rs := by
  refine ext_getD (by rw [putV_len hl (backV_len hl)]; unfold zeroV; simp) fun i hi => ?_
  have hi : i < rs.length := by unfold zeroV at hi; simpa using hi
  rw [putV_at hi hl (backV_len hl), backV_at hi hl, zeroV_at]
  have := h.get hi
  obtain ⟨q1, h1⟩ := emod_w (0 - x.getD i 0) (rs.getD i 0)
  rw [h1, emod_of (b := 0) q1 (by omega), Int.zero_emod]
theorem carry_zero_l {lo up : List Int} {c : List Int → List Int → List Int} (t : OkT lo up) (hc : OkC lo up c) (h3 : Three lo up c) {x : List Int} (hx : OkE up x) : c (zeroV up) x = c (zeroV up) (zeroV up) := by
  have z := zero_el t.g2.ok
  have e := h3 (zeroV up) (zeroV up) x z z hx
  have zz : putV up (zeroV up) (zeroV up) = zeroV up := put_zero z
  have zx : putV up (zeroV up) x = x := by rw [putV_comm z.len hx.len, put_zero hx]
  rw [zz, zx, putV_comm (hc _ _ z z).len (hc _ _ z hx).len] at e
  exact (put_cancel t.g1.ok (hc _ _ z hx) (hc _ _ z z) (hc _ _ z hx) e).symm
theorem carry_zero_r {lo up : List Int} {c : List Int → List Int → List Int} (t : OkT lo up) (hc : OkC lo up c) (h3 : Three lo up c) {x : List Int} (hx : OkE up x) : c x (zeroV up) = c (zeroV up) (zeroV up) := by
  have z := zero_el t.g2.ok
  have e := h3 x (zeroV up) (zeroV up) hx z z
  have zz : putV up (zeroV up) (zeroV up) = zeroV up := put_zero z
  rw [zz, put_zero hx, putV_comm (hc _ _ z z).len (hc _ _ hx z).len] at e
  exact put_cancel t.g1.ok (hc _ _ hx z) (hc _ _ hx z) (hc _ _ z z) e
theorem carry_back {lo up : List Int} {c : List Int → List Int → List Int} (t : OkT lo up) (hc : OkC lo up c) (h3 : Three lo up c) {x : List Int} (hx : OkE up x) : c (backV up x) x = c x (backV up x) := by
  have z := zero_el t.g2.ok
  have hb := back_el t.g2.ok hx.len
  have e := h3 x (backV up x) x hx hb hx
  rw [put_backV t.g2.ok hx.len, putV_comm hb.len hx.len, put_backV t.g2.ok hx.len, carry_zero_l t hc h3 hx, carry_zero_r t hc h3 hx, putV_comm (hc _ _ hx hb).len (hc _ _ z z).len, putV_comm (hc _ _ hb hx).len (hc _ _ z z).len] at e
  exact (put_cancel t.g1.ok (hc _ _ z z) (hc _ _ hx hb) (hc _ _ hb hx) e).symm
theorem put_backT {lo up : List Int} {c : List Int → List Int → List Int} (t : OkT lo up) (hc : OkC lo up c) (h3 : Three lo up c) {p : List Int × List Int} (hp : OkTE lo up p) : putT lo up c p (backT lo up c p) = zeroT lo up c ∧ putT lo up c (backT lo up c p) p = zeroT lo up c := by
  have z := zero_el t.g2.ok
  have hb := back_el t.g2.ok hp.2.len
  have g := hc _ _ z z
  have k := hc _ _ hp.2 hb
  have cb := carry_back t hc h3 hp.2
  have l1 := putV_len (rs := lo) k.len g.len
  have l2 := putV_len (rs := lo) hp.1.len l1
  have key : putV lo (putV lo p.1 (backV lo (putV lo p.1 (putV lo (c p.2 (backV up p.2)) (c (zeroV up) (zeroV up)))))) (c p.2 (backV up p.2)) = backV lo (c (zeroV up) (zeroV up)) := by
    refine ext_getD (by rw [putV_len (putV_len hp.1.len (backV_len l2)) k.len, backV_len g.len]) fun i hi => ?_
    rw [backV_len g.len] at hi
    rw [putV_at hi (putV_len hp.1.len (backV_len l2)) k.len, putV_at hi hp.1.len (backV_len l2), backV_at hi l2, putV_at hi hp.1.len l1, putV_at hi k.len g.len, backV_at hi g.len]
    generalize p.1.getD i 0 = a
    generalize (c p.2 (backV up p.2)).getD i 0 = k
    generalize (c (zeroV up) (zeroV up)).getD i 0 = g
    generalize lo.getD i 0 = m
    obtain ⟨q1, h1⟩ := emod_w (k + g) m
    obtain ⟨q2, h2⟩ := emod_w (a + (k + g) % m) m
    obtain ⟨q3, h3⟩ := emod_w (0 - (a + (k + g) % m) % m) m
    obtain ⟨q4, h4⟩ := emod_w (a + (0 - (a + (k + g) % m) % m) % m) m
    refine emod_of (q4 + q3 - q2 - q1) ?_
    rw [h4, h3, h2, h1]
    simp only [Int.mul_add, Int.mul_sub]
    omega
  unfold putT backT zeroT
  refine ⟨Prod.ext key (put_backV t.g2.ok hp.2.len), Prod.ext ?_ ?_⟩
  · show putV lo (putV lo (backV lo _) p.1) (c (backV up p.2) p.2) = _
    rw [cb, putV_comm (backV_len l2) hp.1.len]
    exact key
  · show putV up (backV up p.2) p.2 = _
    rw [putV_comm hb.len hp.2.len]
    exact put_backV t.g2.ok hp.2.len
/-- whether a thing is an element of a tower -/
def elT (lo up : List Int) : D → Bool
  | .tup [a, b] => elB lo a && elB up b
  | _ => false
def plainP : D → Bool
  | .tup ds => ds.all plainT
  | d => plainD d
theorem thas_any {lo up : List Int} {c : List Int → List Int → List Int} {d : D} (h : plainP d = true) : d_Tower_has [towD lo up c, d] = .ok (.bl (elT lo up d)) := by
  have ft := fld_tableT (lo := lo) (up := up) (c := c)
  have fl := fld_lowerT lo up c
  have fu := fld_upperT lo up c
  have ml : mthD mt_has (gR lo) = .ok (fun ds => d_Rounds_has (gR lo :: ds)) := rfl
  have mu : mthD mt_has (gR up) = .ok (fun ds => d_Rounds_has (gR up :: ds)) := rfl
  refine runD_rt rfl ?_
  simp only [startD, N_Tower_has, List.length_cons, List.length_nil, List.map_cons, List.map_nil, Nat.reduceAdd, Nat.reduceSub, Nat.zero_add, List.replicate, List.cons_append, List.nil_append]
  generalize towD lo up c = TW at *
  generalize tabD lo up c = T at *
  have nt : ∀ d : D, isD isC isU d (.ty "tuple") = .ok (.bl false) → e_Tower_has [.sh TW, .sh d] = .rt (.bl false) := fun d q => by simp [e_Tower_has, q]
  cases d with
  | tup ds =>
    have it : isD isC isU (.tup ds) (.ty "tuple") = .ok (.bl true) := rfl
    have nl : ds.length ≠ 2 → e_Tower_has [.sh TW, .sh (.tup ds)] = .rt (.bl false) := fun q => by
      have q2 : ¬ ((ds.length : Int) = 2) := by omega
      simp [e_Tower_has, it, q2]
    match ds, h with
    | [], _ => exact nl (by simp)
    | [_], _ => exact nl (by simp)
    | _ :: _ :: _ :: _, _ => exact nl (by simp)
    | [a, b], h =>
      have hh : (plainT a && (plainT b && true)) = true := h
      simp only [Bool.and_true, Bool.and_eq_true] at hh
      have h1 := has_any (rs := lo) hh.1
      have h2 := has_any (rs := up) hh.2
      have i0 : ixD (.tup [a, b]) (.int 0) = .ok a := rfl
      have i1 : ixD (.tup [a, b]) (.int 1) = .ok b := rfl
      have ln : lenD (.tup [a, b]) = .ok (.int 2) := rfl
      show _ = Oc.rt (.bl (elB lo a && elB up b))
      generalize D.tup [a, b] = P at *
      generalize gR lo = GL at *
      generalize gR up = GU at *
      cases e1 : elB lo a <;> rw [e1] at h1 <;> simp [e_Tower_has, it, ln, ft, fl, fu, ml, mu, i0, i1, h1, h2]
  | _ => first | (exact nt _ rfl) | (cases h; done)
theorem put_out {lo a b v : List Int} (h1 : a.length = lo.length) (h2 : b.length = lo.length) (h3 : v.length = lo.length) : putV lo (putV lo a b) v = putV lo (putV lo a v) b := by
  refine ext_getD (by rw [putV_len (putV_len h1 h2) h3, putV_len (putV_len h1 h3) h2]) fun i hi => ?_
  rw [putV_len (putV_len h1 h3) h2] at hi
  rw [putV_at hi (putV_len h1 h2) h3, putV_at hi (putV_len h1 h3) h2, putV_at hi h1 h2, putV_at hi h1 h3]
  rw [Int.emod_add_emod, Int.emod_add_emod]
  congr 1
  omega
theorem tower_assoc {lo up : List Int} {c : List Int → List Int → List Int} (t : OkT lo up) (hc : OkC lo up c) (h3 : Three lo up c) {p q r : List Int × List Int} (hp : OkTE lo up p) (hq : OkTE lo up q) (hr : OkTE lo up r) : putT lo up c (putT lo up c p q) r = putT lo up c p (putT lo up c q r) := by
  obtain ⟨a, x⟩ := p
  obtain ⟨b, y⟩ := q
  obtain ⟨d, z⟩ := r
  have xy := put_el t.g2.ok hp.2.len hq.2.len
  have yz := put_el t.g2.ok hq.2.len hr.2.len
  have l1 := (hc x y hp.2 hq.2).len
  have l2 := (hc _ z xy hr.2).len
  have l3 := (hc y z hq.2 hr.2).len
  have l4 := (hc x _ hp.2 yz).len
  have la := hp.1.len
  have lb := hq.1.len
  have ld := hr.1.len
  have e := h3 x y z hp.2 hq.2 hr.2
  unfold putT
  simp only at la lb ld l1 l2 l3 l4 e ⊢
  rw [Prod.mk.injEq]
  refine ⟨?_, putV_assoc hp.2.len hq.2.len hr.2.len⟩
  rw [put_out (putV_len la lb) l1 ld, putV_assoc (putV_len (putV_len la lb) ld) l1 l2, e, ← putV_assoc (putV_len (putV_len la lb) ld) l3 l4, ← putV_assoc la (putV_len lb ld) l3, putV_assoc la lb ld]
theorem tower_rz {lo up : List Int} {c : List Int → List Int → List Int} (t : OkT lo up) (hc : OkC lo up c) (h3 : Three lo up c) {p : List Int × List Int} (hp : OkTE lo up p) : putT lo up c p (zeroT lo up c) = p := by
  obtain ⟨a, x⟩ := p
  have z := zero_el t.g2.ok
  have h0 := hc _ _ z z
  have hb := back_el t.g1.ok h0.len
  unfold putT zeroT
  simp only
  rw [Prod.mk.injEq, carry_zero_r t hc h3 hp.2, putV_assoc hp.1.len hb.len h0.len, putV_comm hb.len h0.len, put_backV t.g1.ok h0.len, put_zero hp.1, put_zero hp.2]
  exact ⟨rfl, rfl⟩
theorem tower_comm {lo up : List Int} {c : List Int → List Int → List Int} (sy : ∀ x y, OkE up x → OkE up y → c x y = c y x) {p q : List Int × List Int} (hp : OkTE lo up p) (hq : OkTE lo up q) : putT lo up c p q = putT lo up c q p := by
  unfold putT
  rw [sy p.2 q.2 hp.2 hq.2, putV_comm hp.1.len hq.1.len, putV_comm hp.2.len hq.2.len]
def stepX (lo up : List Int) (ps : List (List Int)) (x y f : List Int) (k : Nat) : List Int := if up.getD k 0 ≤ x.getD k 0 + y.getD k 0 then putV lo f (ps.getD k []) else f
/-- labels' own carry, then what is carried at each place that comes round -/
def plainW (lo up : List Int) (ps : List (List Int)) (hf : List Int → List Int) (x y : List Int) : List Int := (List.range up.length).foldl (stepX lo up ps x y) (ownV lo up hf x y)
theorem stepX_el {lo up : List Int} {ps : List (List Int)} {x y f : List Int} {k : Nat} (g : OkR lo) (hp : ∀ k, k < up.length → OkE lo (ps.getD k [])) (hk : k < up.length) (h : OkE lo f) : OkE lo (stepX lo up ps x y f k) := by
  unfold stepX
  split
  · exact put_el g h.len (hp k hk).len
  · exact h
theorem foldX_el {lo up : List Int} {ps : List (List Int)} {x y : List Int} (g : OkR lo) (hp : ∀ k, k < up.length → OkE lo (ps.getD k [])) : ∀ {l : List Nat} {f : List Int}, (∀ k ∈ l, k < up.length) → OkE lo f → OkE lo (l.foldl (stepX lo up ps x y) f)
  | [], _, _, h => h
  | k :: l, f, hl, h => by
    rw [List.foldl_cons]
    exact foldX_el g hp (fun j hj => hl j (List.mem_cons_of_mem _ hj)) (stepX_el g hp (hl k List.mem_cons_self) h)
theorem foldX_out {lo up : List Int} {ps : List (List Int)} {x y s : List Int} (g : OkR lo) (hp : ∀ k, k < up.length → OkE lo (ps.getD k [])) (hs : OkE lo s) : ∀ {l : List Nat} {f : List Int}, (∀ k ∈ l, k < up.length) → OkE lo f → l.foldl (stepX lo up ps x y) (putV lo f s) = putV lo (l.foldl (stepX lo up ps x y) f) s
  | [], _, _, _ => rfl
  | k :: l, f, hl, h => by
    have hk := hl k List.mem_cons_self
    have e : stepX lo up ps x y (putV lo f s) k = putV lo (stepX lo up ps x y f k) s := by
      unfold stepX
      split
      · have a := h.len
        have b := hs.len
        have c := (hp k hk).len
        rw [putV_assoc a b c, putV_comm b c, ← putV_assoc a c b]
      · rfl
    rw [List.foldl_cons, List.foldl_cons, e]
    exact foldX_out g hp hs (fun j hj => hl j (List.mem_cons_of_mem _ hj)) (stepX_el g hp hk h)
def zeroL (lo up : List Int) : List ((Nat × Nat) × List Int) := (placePairs up.length).map fun p => (p, zeroV lo)
theorem times_zeroX (lo : List Int) (n : Int) : timesV lo n (zeroV lo) = zeroV lo := by
  have zl : (zeroV lo).length = lo.length := by unfold zeroV; simp
  refine ext_getD (by rw [timesV_len lo _ _ zl, zl]) fun i hi => ?_
  have hi : i < lo.length := by rwa [zl] at hi
  rw [timesV_at hi zl]
  have : (zeroV lo).getD i 0 = 0 := by unfold zeroV; rw [List.getD_eq_getElem?_getD, List.getElem?_map]; cases lo[i]? <;> rfl
  rw [this, Int.mul_zero, Int.zero_emod]
theorem fold_zeroX {lo x y : List Int} : ∀ {L : List (Nat × Nat)} {f : List Int}, OkE lo f → (L.map fun p => (p, zeroV lo)).foldl (fun f (q : (Nat × Nat) × List Int) => putV lo f (timesV lo (x.getD q.1.1 0 * y.getD q.1.2 0) q.2)) f = f
  | [], _, _ => rfl
  | p :: L, f, h => by
    rw [List.map_cons, List.foldl_cons]
    show List.foldl _ (putV lo f (timesV lo _ (zeroV lo))) _ = f
    rw [times_zeroX, put_zero h]
    exact fold_zeroX h
theorem okP_zero {lo up : List Int} {ps : List (List Int)} (g : OkR lo) (hl : ps.length = up.length) (hp : ∀ k, k < up.length → OkE lo (ps.getD k [])) : OkP lo up ps (zeroL lo up) := by
  refine ⟨hl, hp, ?_, fun q hq => ?_⟩
  · unfold zeroL
    rw [List.map_map]
    exact List.map_id _
  · obtain ⟨p, _, rfl⟩ := List.mem_map.mp hq
    exact zero_el g
theorem okQ_zero (lo up : List Int) : OkQ lo up (zeroL lo up) := fun q hq => by
  obtain ⟨p, _, rfl⟩ := List.mem_map.mp hq
  exact ⟨times_zeroX lo _, times_zeroX lo _⟩
theorem plainW_whole {lo up : List Int} {ps : List (List Int)} {hf : List Int → List Int} {x y : List Int} (g : OkR lo) (gu : OkR up) (hp : ∀ k, k < up.length → OkE lo (ps.getD k [])) (hh : OkH lo up hf) (hx : OkE up x) (hy : OkE up y) : plainW lo up ps hf x y = wholeV lo up ps (zeroL lo up) hf x y := by
  have o1 := put_el g (put_el g (hh x hx).len (hh y hy).len).len (timesV_len lo (hf (putV up x y)) (-1) (hh _ (put_el gu hx.len hy.len)).len)
  have o1 : OkE lo (ownV lo up hf x y) := o1
  have z := zero_el g
  have hr : ∀ k ∈ List.range up.length, k < up.length := fun k hk => List.mem_range.mp hk
  have fe := foldX_el (x := x) (y := y) g hp hr z
  unfold plainW wholeV carryV zeroL
  rw [show ownV lo up hf x y = putV lo (zeroV lo) (ownV lo up hf x y) from by rw [putV_comm z.len o1.len, put_zero o1], foldX_out g hp o1 hr z]
  rw [putV_comm z.len o1.len, put_zero o1]
  show _ = putV lo (List.foldl _ ((List.range up.length).foldl (stepX lo up ps x y) (zeroV lo)) _) _
  rw [fold_zeroX fe]
theorem q_table_whole {lo up : List Int} {c0 c1 : Int} (t : OkT lo up) : ∃ (ps : List (List Int)) (hf : List Int → List Int), ps.length = up.length ∧ (∀ k, k < up.length → OkE lo (ps.getD k [])) ∧ OkH lo up hf ∧ OkC lo up (wholeV lo up ps (zeroL lo up) hf) ∧ d_q_table [tuI lo, tuI up, .lst [.int c0, .int c1]] = .ok (cD up (wholeV lo up ps (zeroL lo up) hf)) := by
  have m := q_members_ok t.g2.ok t.g2.most t.g2.prod
  have l9 := t.mems_le
  have l81 := t.prs_le
  have l7 := t.g2.ok.len
  have l2 := l_two
  have i0 : ixD (.lst [.int c0, .int c1]) (.int 0) = .ok (.int c0) := rfl
  have i1 : ixD (.lst [.int c0, .int c1]) (.int 1) = .ok (.int c1) := rfl
  have el := fun i : Nat => q_element_ok (rs := lo) (c := c0 / (5 * (i : Nat) + 1)) t.g1.ok t.g1.most
  obtain ⟨ps, pl, hp⟩ : ∃ ps : List (List Int), ps.length = up.length ∧ ∀ k, k < up.length → OkE lo (ps.getD k []) ∧ d_q_element [tuI lo, .int (c0 / (5 * (k : Nat) + 1))] = .ok (tuI (ps.getD k [])) := by
    refine ⟨(List.range up.length).map fun i => Classical.choose (el i), by simp, fun k hk => ?_⟩
    have e : ((List.range up.length).map fun i => Classical.choose (el i)).getD k [] = Classical.choose (el k) := by
      rw [List.getD_eq_getElem?_getD, List.getElem?_map, List.getElem?_range hk]
      rfl
    rw [e]
    exact Classical.choose_spec (el k)
  have hp1 := fun k hk => (hp k hk).1
  -- what each element stands for
  let E1 (G : List (List Int × List Int)) (s5 s6 : Slot) : Env := [.sh (tuI lo), .sh (tuI up), .sh (.lst [.int c0, .int c1]), .sh (.lst ((mems up).map tuI)), .ow .flat (dicA tuI tuI G), s5, s6, .un, .un, .un, .un]
  obtain ⟨G, r1, lp1, ⟨s5, s6, rfl⟩, hk1, hv1⟩ := fillE (N := 9) (lo := lo) (f := q_table_l1) (fun p : List Int × Nat => .tup [.int (p.2 : Nat), tuI p.1]) (·.1) (fun G r => ∃ s5 s6, r = E1 G s5 s6)
    (X := (mems up).zipIdx) (L := []) (r := E1 [] .un .un) (by simpa using l9) (by rw [zipIdx_fst]; exact mems_nodup up) (by simp)
    (fun G hG a ha hm r ⟨s5, s6, e⟩ => by
      subst e
      obtain ⟨h3, h4⟩ := mem_zipIdx_lt ha
      obtain ⟨v, hv, ev⟩ := q_element_ok (rs := lo) (c := c1 / (7 * (a.2 : Nat) + 1)) t.g1.ok t.g1.most
      have q := mulD_small (i := 7) (j := ((a.2 : Nat) : Int)) (.inr ⟨by omega, by omega⟩)
      have dv := divD_ok (i := c1) (j := 7 * ((a.2 : Nat) : Int) + 1) (by omega) (by have := bits_lt (i := 7 * ((a.2 : Nat) : Int) + 1) (n := 8) (by omega) (by omega); omega)
      have sd : setD (dicA tuI tuI G) (tuI a.1) (tuI v) = .ok (dicA tuI tuI (setA G a.1 v)) := setD_A (V := tuI) keyE G a.1 v (by unfold lim; omega)
      refine ⟨v, E1 (setA G a.1 v) (.sh (.int (a.2 : Nat))) (.sh (tuI a.1)), hv, ?_, _, _, rfl⟩
      simp only [E1]
      simp [q_table_l1, setG, ownF, ev, i1, q, dv, sd]) ⟨_, _, rfl⟩
  simp only [List.nil_append, zipIdx_fst] at lp1 hk1 hv1
  have gn : (G.map (·.1)).Nodup := by rw [hk1]; exact mems_nodup up
  let hf : List Int → List Int := fun x => (lookA G x).getD []
  have gv : ∀ x, OkE up x → OkE lo (hf x) ∧ ixD (dicA tuI tuI G) (tuI x) = .ok (tuI (hf x)) := fun x hx => by
    obtain ⟨v, h1, h2⟩ := lookA_all gn hv1 (x := x) (by rw [hk1]; exact mem_mems.mpr hx)
    have e : hf x = v := by simp only [hf]; rw [h1]; rfl
    rw [e]
    exact ⟨h2, ixD_A (V := tuI) keyE G x h1⟩
  have oh : OkH lo up hf := fun x hx => (gv x hx).1
  have okc : OkC lo up (wholeV lo up ps (zeroL lo up) hf) := fun x y hx hy => by
    rw [← plainW_whole t.g1.ok t.g2.ok hp1 oh hx hy]
    exact foldX_el t.g1.ok hp1 (fun k hk => List.mem_range.mp hk) (put_el t.g1.ok (put_el t.g1.ok (oh x hx).len (oh y hy).len).len (timesV_len lo _ (-1) (oh _ (put_el t.g2.ok hx.len hy.len)).len))
  refine ⟨ps, hf, pl, hp1, oh, okc, ?_⟩
  generalize hf = hf at *
  let E (L : List ((List Int × List Int) × List Int)) (s6 s8 s9 s10 : Slot) : Env := [.sh (tuI lo), .sh (tuI up), .sh (.lst [.int c0, .int c1]), .sh (.lst ((mems up).map tuI)), .ow .flat (dicA tuI tuI G), s5, s6, .ow .flat (dicA pkD tuI L), s8, s9, s10]
  -- the overflowing places
  have in1 : ∀ (L : List ((List Int × List Int) × List Int)) (x y h : List Int) (s10 : Slot), OkE up x → OkE up y → OkE lo h → ∃ s10', forD q_table_l2 (rangeL 0 up.length) (E L (.sh (tuI x)) (.sh (tuI y)) (.sh (tuI h)) s10) = .nx (E L (.sh (tuI x)) (.sh (tuI y)) (.sh (tuI ((List.range up.length).foldl (stepX lo up ps x y) h))) s10') := fun L x y h s10 hx hy hh => by
    rw [rangeL_nat]
    obtain ⟨r', e, t', rfl⟩ := forD_row (pre0 := List.range up.length) (f := q_table_l2) (fun i : Nat => D.int i) (fun done r => ∃ s10', r = E L (.sh (tuI x)) (.sh (tuI y)) (.sh (tuI (done.foldl (stepX lo up ps x y) h))) s10') (ds := List.range up.length) (pre := []) (r := E L (.sh (tuI x)) (.sh (tuI y)) (.sh (tuI h)) s10) (fun done i hd r ⟨s10', e⟩ => by
      subst e
      obtain ⟨rest, hr⟩ := hd
      have hi : i < up.length := List.mem_range.mp (by rw [← hr]; simp)
      have hdn : ∀ k ∈ done, k < up.length := fun k hk => List.mem_range.mp (by rw [← hr]; simp [hk])
      have hh' := foldX_el (x := x) (y := y) t.g1.ok hp1 hdn hh
      have e1 := ixD_tI (xs := x) (i := i) (by rw [hx.len]; exact hi)
      have e3 := ixD_tI (xs := y) (i := i) (by rw [hy.len]; exact hi)
      have e2 := ixD_tI (xs := up) (i := i) hi
      obtain ⟨hv, ev⟩ := hp i hi
      have q := mulD_small (i := 5) (j := (i : Int)) (.inr ⟨by omega, by omega⟩)
      have dv := divD_ok (i := c0) (j := 5 * (i : Int) + 1) (by omega) (by have := bits_lt (i := 5 * (i : Int) + 1) (n := 14) (by omega) (by omega); omega)
      have ad := q_added_ok t.g1.ok hh' hv
      have fs : (done ++ [i]).foldl (stepX lo up ps x y) h = stepX lo up ps x y (done.foldl (stepX lo up ps x y) h) i := by rw [List.foldl_append]; rfl
      rw [fs]
      unfold stepX at ad ⊢
      by_cases ov : up.getD i 0 ≤ x.getD i 0 + y.getD i 0
      · refine ⟨_, ?_, .sh (.int i), rfl⟩
        rw [if_pos ov]
        simp only [E]
        simp [-ixD_tup, -List.getD_eq_getElem?_getD, q_table_l2, e1, e2, e3, ov, i0, q, dv, ev, ad]
      · refine ⟨_, ?_, .sh (.int i), rfl⟩
        rw [if_neg ov]
        simp only [E]
        simp [-ixD_tup, -List.getD_eq_getElem?_getD, q_table_l2, e1, e2, e3, ov]) (by simp) ⟨_, rfl⟩
    exact ⟨t', e⟩
  have rg : rng1 [.int up.length] = .ok (rangeL 0 up.length) := by rw [rng1_ok (by omega) (by omega)]; simp
  obtain ⟨L, r2, lp2, ⟨s6', s8, s9, s10, rfl⟩, hk, hv⟩ := fill2Q (N := 81) (up := up) (Q := fun p v => v = wholeV lo up ps (zeroL lo up) hf p.1 p.2) (outer := q_table_l4) (inner := q_table_l3) tuI (fun x => x)
    (fun L r => ∃ s6 s8 s9 s10, r = E L s6 s8 s9 s10) (fun L a r => ∃ s8 s9 s10, r = E L (.sh (tuI a)) s8 s9 s10)
    (X := mems up) (L := []) (r := E [] s6 .un .un .un) (by simpa using l81) (by simpa using mems_nodup up) (by simp)
    (fun L hL x hx y hy hm r ⟨s8, s9, s10, e⟩ => by
      subst e
      have hx := mem_mems.mp hx
      have hy := mem_mems.mp hy
      obtain ⟨hvx, ex⟩ := gv x hx
      obtain ⟨hvy, ey⟩ := gv y hy
      obtain ⟨hvz, ez⟩ := gv (putV up x y) (put_el t.g2.ok hx.len hy.len)
      have a1 := q_added_ok t.g1.ok hvx hvy
      have a2 := q_added_ok t.g2.ok hx hy
      have tm := q_times_ok (n := -1) t.g1.ok hvz t.g1.most
      have tl := timesV_el (n := -1) t.g1.ok hvz
      have p1 := put_el t.g1.ok hvx.len hvy.len
      have a3 := q_added_ok t.g1.ok p1 tl
      have p2 := put_el t.g1.ok p1.len tl.len
      obtain ⟨t', lp⟩ := in1 L x y _ s10 hx hy p2
      have pw : (List.range up.length).foldl (stepX lo up ps x y) (putV lo (putV lo (hf x) (hf y)) (timesV lo (-1) (hf (putV up x y)))) = wholeV lo up ps (zeroL lo up) hf x y := plainW_whole t.g1.ok t.g2.ok hp1 oh hx hy
      rw [pw] at lp
      generalize wholeV lo up ps (zeroL lo up) hf x y = h' at *
      have sd : setD (dicA pkD tuI L) (.tup [tuI x, tuI y]) (tuI h') = .ok (dicA pkD tuI (setA L (x, y) h')) := setD_A (V := tuI) keyP L (x, y) h' (by unfold lim; omega)
      refine ⟨h', E (setA L (x, y) h') (.sh (tuI x)) (.sh (tuI y)) (.sh (tuI h')) t', rfl, ?_, _, _, _, rfl⟩
      simp only [E] at lp ⊢
      simp [q_table_l3, setG, ownF, ex, ey, ez, a1, a2, a3, tm, l2, rg, lp, sd])
    (fun L x hx r ⟨s6, s8, s9, s10, e⟩ => by
      subst e
      refine ⟨E L (.sh (tuI x)) s8 s9 s10, ⟨_, _, _, rfl⟩, fun L' r2 e2 ⟨s8', s9', s10', p2⟩ => ⟨r2, ?_, ?_⟩⟩
      · simp only [E] at e2 ⊢
        simp [q_table_l4, e2]
      · subst p2
        exact ⟨_, _, _, _, rfl⟩) ⟨_, _, _, _, rfl⟩
  simp only [List.nil_append] at *
  have hk : L.map (·.1) = prs up := hk
  have e := byRule (L := L) (g := fun p : List Int × List Int => wholeV lo up ps (zeroL lo up) hf p.1 p.2) hv
  rw [show L.map (fun p => p.1) = prs up from hk] at e
  have ed : dicA pkD tuI L = cD up (wholeV lo up ps (zeroL lo up) hf) := by
    show _ = dicA pkD tuI ((prs up).map fun p => (p, wholeV lo up ps (zeroL lo up) hf p.1 p.2))
    exact congrArg (dicA pkD tuI) e
  rw [← ed]
  rw [← enumL_els] at lp1
  have en : enumS [.lst ((mems up).map tuI)] = .ok (enumL ((mems up).map tuI)) := rfl
  first | refine runD_rt rfl ?_ | refine runO_rt rfl ?_
  simp only [startD, N_q_table, List.length_cons, List.length_nil, List.map_cons, List.map_nil, Nat.reduceAdd, Nat.reduceSub, Nat.zero_add, List.replicate, List.cons_append, List.nil_append]
  simp only [E] at lp2
  simp only [E1] at lp1
  rw [show (dicA pkD tuI ([] : List ((List Int × List Int) × List Int))) = .dic [] [] from rfl] at lp2
  rw [show (dicA tuI tuI ([] : List (List Int × List Int))) = .dic [] [] from rfl] at lp1
  simp [e_q_table, m, en, lp1, lp2]
  try rfl
theorem q_table_plain {lo up : List Int} {c0 c1 : Int} (t : OkT lo up) : ∃ c, OkC lo up c ∧ Three lo up c ∧ d_q_table [tuI lo, tuI up, .lst [.int c0, .int c1]] = .ok (cD up c) := by
  obtain ⟨ps, hf, pl, hp, oh, okc, e⟩ := q_table_whole (c0 := c0) (c1 := c1) t
  exact ⟨_, okc, whole_three (okP_zero t.g1.ok pl hp) (okQ_zero lo up) t.g2.ok oh, e⟩
/-- the plain laws of a lower group of any make, and how its elements lie -/
structure LowG {α : Type} [DecidableEq α] (V : α → D) (els : List α) (put : α → α → α) (back : α → α) (zero : α) : Prop where
  nd : els.Nodup
  len : els.length ≤ 16
  putE : ∀ a ∈ els, ∀ b ∈ els, put a b ∈ els
  backE : ∀ a ∈ els, back a ∈ els
  zeroE : zero ∈ els
  assoc : ∀ a ∈ els, ∀ b ∈ els, ∀ c ∈ els, put (put a b) c = put a (put b c)
  comm : ∀ a ∈ els, ∀ b ∈ els, put a b = put b a
  pz : ∀ a ∈ els, put a zero = a
  pb : ∀ a ∈ els, put a (back a) = zero
  okV : ∀ a, okQ 64 (V a) = true
  eqq : ∀ a b, eqQ (V a) (V b) = decide (a = b)
theorem LowG.neV {α : Type} [DecidableEq α] {V : α → D} {els : List α} {put : α → α → α} {back : α → α} {zero : α} (L : LowG V els put back zero) (a b : α) : neD (V a) (V b) = .ok (.bl (!decide (a = b))) := by rw [neD_ok (L.okV a) (L.okV b), L.eqq]
/-- what the program's group answers: one method each -/
def HasF {α : Type} (V : α → D) (els : List α) (G : D) : Prop := ∃ f, mthD mt_has_T G = .ok f ∧ ∀ a ∈ els, f [V a] = .ok (.bl true)
def AddF {α : Type} (V : α → D) (els : List α) (put : α → α → α) (G : D) : Prop := ∃ f, mthD mt_added_T G = .ok f ∧ ∀ a ∈ els, ∀ b ∈ els, f [V a, V b] = .ok (V (put a b))
def SizeF (n : Int) (G : D) : Prop := ∃ f, mthD mt_size_T G = .ok f ∧ f [] = .ok (.int n)
def EvenF (G : D) : Prop := ∃ f, mthD mt_is_even_T G = .ok f ∧ f [] = .ok (.bl true)
def tabG {α : Type} (V : α → D) (G : D) (up : List Int) (c : List Int → List Int → α) : D := .obj 2 [G, gR up, dicF pkD V (prs up) fun p => c p.1 p.2]
def OkCG {α : Type} (els : List α) (up : List Int) (c : List Int → List Int → α) : Prop := ∀ x y, OkE up x → OkE up y → c x y ∈ els
/-- an upper group that a table takes -/
structure OkU (up : List Int) : Prop where
  g : OkG up
  p : up.foldl (· * ·) 1 ≤ 9
theorem OkU.mems_le {up : List Int} (u : OkU up) : (mems up).length ≤ 9 := by
  have := mems_len (rs := up) fun n hn => by have := u.g.ok.two n hn; omega
  have := u.p
  omega
theorem OkU.prs_le {up : List Int} (u : OkU up) : (prs up).length ≤ 81 := by
  have h := u.mems_le
  have e : (prs up).length = (mems up).length * (mems up).length := by unfold prs; simp [List.length_flatMap, sum_const]
  rw [e]
  exact Nat.mul_le_mul h h
theorem OkU.t {up : List Int} (u : OkU up) : OkT [] up := ⟨⟨⟨by simp, by simp⟩, by simp, by simp⟩, u.g, by simp, u.p⟩
theorem lookG_ok {G : D} {up : List Int} {n : Int} (s : SizeF n G) (h16 : n ≤ 16) (e : EvenF G) (u : OkU up) : d_look_at_groups [G, gR up] = .ok .non := by
  obtain ⟨fs, s1, s2⟩ := s
  obtain ⟨fe, e1, e2⟩ := e
  have sz := size_ok u.g
  have ms : mthD mt_size_T (gR up) = .ok (fun ds => d_Group_size (gR up :: ds)) := rfl
  have ir := is_rounds up
  have g1 : gtD (.int n) (.int 16) = .ok (.bl false) := by
    have : decide (n > 16) = false := decide_eq_false (by omega)
    show Res.ok (D.bl (decide (n > 16))) = _
    rw [this]
  have g2 : gtD (.int (up.foldl (· * ·) 1)) (.int 9) = .ok (.bl false) := by
    have := u.p
    have : decide (up.foldl (· * ·) 1 > 9) = false := decide_eq_false (by omega)
    show Res.ok (D.bl (decide (up.foldl (· * ·) 1 > 9))) = _
    rw [this]
  refine runD_nx (r := [.sh G, .sh (gR up)]) rfl ?_
  simp only [startD, N_look_at_groups, List.length_cons, List.length_nil, List.map_cons, List.map_nil, Nat.reduceAdd, Nat.reduceSub, Nat.zero_add, List.replicate, List.cons_append, List.nil_append]
  generalize up.foldl (· * ·) 1 = m at *
  generalize gR up = GU at *
  simp [-gtD_int, e_look_at_groups, s1, s2, e1, e2, sz, ms, ir, g1, g2]
theorem fldG_lower (G GU : D) (k : List D) : fldD (plOf [2] "lower") (.obj 2 (G :: GU :: k)) = .ok G := by
  have e : plOf [2] "lower" 2 = some 0 := by kernel_rfl
  unfold fldD
  simp [e]
theorem fldG_upper (G GU : D) (k : List D) : fldD (plOf [2] "upper") (.obj 2 (G :: GU :: k)) = .ok GU := by
  have e : plOf [2] "upper" 2 = some 1 := by kernel_rfl
  unfold fldD
  simp [e]
theorem fldG_kept (G GU d : D) : fldD (plOf [2] "kept") (.obj 2 [G, GU, d]) = .ok d := by
  have e : plOf [2] "kept" 2 = some 2 := by kernel_rfl
  unfold fldD
  simp [e]
theorem tableG_ok {α : Type} {V : α → D} {els : List α} {G : D} {up : List Int} {n : Int} {c : List Int → List Int → α} (hs : SizeF n G) (h16 : n ≤ 16) (he : EvenF G) (u : OkU up) (hf : HasF V els G) (cd : D)
    (h : ∀ x y, OkE up x → OkE up y → notInD (pkD (x, y)) cd = .ok (.bl false) ∧ ixD cd (pkD (x, y)) = .ok (V (c x y)) ∧ c x y ∈ els) : d_Table_init [G, gR up, cd] = .ok (tabG V G up c) := by
  have g := lookG_ok hs h16 he u
  obtain ⟨ff, f1, f2⟩ := hf
  have m := members_ok u.g.ok u.g.most u.g.prod
  have mm : mthD mt_members_T (gR up) = .ok (fun ds => d_Rounds_members (gR up :: ds)) := rfl
  have l9 := u.mems_le
  let env (ps : List (List Int × List Int)) (s5 s6 : Slot) : Env := [.ow (.parts [.sh, .sh, .flat]) (.obj 2 [G, gR up, dicF pkD V ps fun p => c p.1 p.2]), .sh G, .sh (gR up), .sh cd, .sh (.lst ((mems up).map tuI)), s5, s6]
  have inner : ∀ (ps : List (List Int × List Int)) (x : List Int) (s6 : Slot), OkE up x → (∀ y, (x, y) ∉ ps) → ps.length ≤ 81 → ∃ s6', forD Table_init_l1 ((mems up).map tuI) (env ps (.sh (tuI x)) s6) = .nx (env (ps ++ (mems up).map fun y => (x, y)) (.sh (tuI x)) s6') := fun ps x s6 hx hno hlen => by
    obtain ⟨r', e, s6', rfl⟩ := forD_row (pre0 := mems up) (f := Table_init_l1) tuI (fun done r => ∃ s6, r = env (ps ++ done.map fun y => (x, y)) (.sh (tuI x)) s6) (ds := mems up) (pre := []) (r := env ps (.sh (tuI x)) s6) (fun done y hd r ⟨s6, e⟩ => by
      subst e
      obtain ⟨rest, hr⟩ := hd
      have hy : OkE up y := mem_mems.mp (by rw [← hr]; simp)
      obtain ⟨q1, q2, q3⟩ := h x y hx hy
      have hh := f2 _ q3
      have hl : (ps ++ done.map fun y => (x, y)).length < lim := by
        have := congrArg List.length hr
        simp at this
        simp
        unfold lim
        omega
      have nodup : ((mems up)).Nodup := mems_nodup up
      have hnew : (x, y) ∉ ((ps ++ done.map fun y => (x, y)).map fun p => (p, c p.1 p.2)).map (·.1) := by
        rw [List.map_map]
        intro hm
        obtain ⟨p, hp, e⟩ := List.mem_map.mp hm
        have e' : p = (x, y) := e
        subst e'
        rcases List.mem_append.mp hp with z | z
        · exact hno y z
        · obtain ⟨w, hw, e⟩ := List.mem_map.mp z
          injection e with _ e
          subst e
          rw [← hr, List.nodup_append] at nodup
          have := nodup.1
          rw [List.nodup_append] at this
          exact this.2.2 w hw w (by simp) rfl
      have sk := setK_A' (V := V) keyP ((ps ++ done.map fun y => (x, y)).map fun p => (p, c p.1 p.2)) (x, y) (c x y)
      rw [setA_new _ hnew] at sk
      have kt := keyP.t (x, y)
      refine ⟨env (ps ++ (done ++ [y]).map fun y => (x, y)) (.sh (tuI x)) (.sh (tuI y)), ?_, _, rfl⟩
      have eq : dicF pkD V (ps ++ (done ++ [y]).map fun y => (x, y)) (fun p => c p.1 p.2) = dicA pkD V (((ps ++ done.map fun y => (x, y)).map fun p => (p, c p.1 p.2)) ++ [((x, y), c x y)]) := by
        simp [dicF]
      show Table_init_l1 (tuI y) _ = .nx [.ow (.parts [.sh, .sh, .flat]) (.obj 2 [G, gR up, dicF pkD V (ps ++ (done ++ [y]).map fun y => (x, y)) fun p => c p.1 p.2]), _, _, _, _, _, _]
      rw [eq, ← sk]
      generalize (ps ++ done.map fun y => (x, y)) = L at *
      generalize V (c x y) = vv at *
      simp [Table_init_l1, env, l_two, q1, q2, f1, hh, setFI, Shape.kid, Shape.isFlat, dicF, dicA, kt, hl]) (by simp) ⟨s6, by simp⟩
    exact ⟨s6', by simpa using e⟩
  obtain ⟨r', outer, s5, s6, rfl⟩ := forD_row (pre0 := mems up) (f := Table_init_l2) tuI (fun done r => ∃ s5 s6, r = env (done.flatMap fun x => (mems up).map fun y => (x, y)) s5 s6) (ds := mems up) (pre := []) (r := env [] .un .un) (fun done x hd r ⟨s5, s6, e⟩ => by
    subst e
    obtain ⟨rest, hr⟩ := hd
    have hx : OkE up x := mem_mems.mp (by rw [← hr]; simp)
    have nodup : ((mems up)).Nodup := mems_nodup up
    obtain ⟨s6', q⟩ := inner (done.flatMap fun x => (mems up).map fun y => (x, y)) x s6 hx (fun y hm => by
      obtain ⟨a, ha, hb⟩ := List.mem_flatMap.mp hm
      obtain ⟨b, _, e⟩ := List.mem_map.mp hb
      injection e with e _
      subst e
      rw [← hr, List.nodup_append] at nodup
      have := nodup.1
      rw [List.nodup_append] at this
      exact this.2.2 a ha a (by simp) rfl) (by
      rw [List.length_flatMap]
      simp only [List.length_map, sum_const]
      have h1 : done.length ≤ 9 := by
        have := congrArg List.length hr
        simp at this
        omega
      calc done.length * (mems up).length ≤ 9 * 9 := Nat.mul_le_mul h1 l9
        _ = 81 := rfl)
    refine ⟨_, ?_, .sh (tuI x), s6', rfl⟩
    rw [List.flatMap_append]
    simp only [List.flatMap_cons, List.flatMap_nil, List.append_nil]
    rw [← q]
    simp [Table_init_l2, env]) (by simp) ⟨.un, .un, rfl⟩
  simp only [List.nil_append] at outer
  have st : startI N_Table_init.length 2 [G, gR up, cd] = [.ow .flat (.obj 2 []), .sh G, .sh (gR up), .sh cd, .un, .un, .un] := rfl
  have e1 : e_Table_init (startI N_Table_init.length 2 [G, gR up, cd]) = .nx (env (prs up) s5 s6) := by
    rw [st]
    have f0 : setF 0 2 "lower" .sh G [.ow .flat (.obj 2 []), .sh G, .sh (gR up), .sh cd, .un, .un, .un] = .nx [.ow .flat (.obj 2 [G]), .sh G, .sh (gR up), .sh cd, .un, .un, .un] := by kernel_rfl
    have f1 : setF 0 2 "upper" .sh (gR up) [.ow .flat (.obj 2 [G]), .sh G, .sh (gR up), .sh cd, .un, .un, .un] = .nx [.ow .flat (.obj 2 [G, gR up]), .sh G, .sh (gR up), .sh cd, .un, .un, .un] := by kernel_rfl
    have f2 : setF 0 2 "kept" .flat (.dic [] []) [.ow .flat (.obj 2 [G, gR up]), .sh G, .sh (gR up), .sh cd, .un, .un, .un] = .nx [.ow (.parts [.sh, .sh, .flat]) (.obj 2 [G, gR up, .dic [] []]), .sh G, .sh (gR up), .sh cd, .un, .un, .un] := by kernel_rfl
    have o2 : forD Table_init_l2 ((mems up).map tuI) [.ow (.parts [.sh, .sh, .flat]) (.obj 2 [G, gR up, .dic [] []]), .sh G, .sh (gR up), .sh cd, .sh (.lst ((mems up).map tuI)), .un, .un] = .nx (env (prs up) s5 s6) := outer
    simp only [e_Table_init, getS_succ, getS0, ok_bind, g, lift_ok, nx_seq, f0, f1, f2, mm, m, List.set_cons_succ, List.set_cons_zero, itemsD_lst]
    simp [o2, m]
  exact runI_nx rfl e1
theorem carryG_ok {α : Type} {V : α → D} {G : D} {up : List Int} {c : List Int → List Int → α} {x y : List Int} (hx : OkE up x) (hy : OkE up y) : d_Table_carry [tabG V G up c, tuI x, tuI y] = .ok (V (c x y)) := by
  refine runD_rt rfl ?_
  simp only [startD, N_Table_carry, List.length_cons, List.length_nil, List.map_cons, List.map_nil, Nat.reduceAdd, Nat.reduceSub, Nat.zero_add, List.replicate, List.cons_append, List.nil_append]
  have l : lookA ((prs up).map fun p => (p, c p.1 p.2)) (x, y) = some (c x y) := lookA_map (fun p : List Int × List Int => c p.1 p.2) (mem_prs.mpr ⟨mem_mems.mpr hx, mem_mems.mpr hy⟩)
  have i := ixD_A (V := V) keyP ((prs up).map fun p => (p, c p.1 p.2)) (x, y) l
  have l2 := l_two
  have f1 := fldG_upper G (gR up) [dicF pkD V (prs up) fun p => c p.1 p.2]
  have f2 := fldG_kept G (gR up) (dicF pkD V (prs up) fun p => c p.1 p.2)
  have hx := has_ok hx
  have hy := has_ok hy
  unfold tabG
  have i : ixD (dicF pkD V (prs up) fun p => c p.1 p.2) (.tup [tuI x, tuI y]) = .ok (V (c x y)) := i
  generalize dicF pkD V (prs up) (fun p => c p.1 p.2) = C at *
  simp [e_Table_carry, f1, f2, mthD, mt_has, mt_has_T, hx, hy, i, l2]
theorem carriesG_ok {α : Type} {V : α → D} {G : D} {up : List Int} {c : List Int → List Int → α} (u : OkU up) : d_Table_carries [tabG V G up c] = .ok (dicF pkD V (prs up) fun p => c p.1 p.2) := by
  have q := dictD_F (E := pkD) (V := V) (prs up) (fun p => c p.1 p.2) (apart_prs u.t.small)
  have f2 := fldG_kept G (gR up) (dicF pkD V (prs up) fun p => c p.1 p.2)
  first | refine runD_rt rfl ?_ | refine runO_rt rfl ?_
  simp only [startD, N_Table_carries, List.length_cons, List.length_nil, List.map_cons, List.map_nil, Nat.reduceAdd, Nat.reduceSub, Nat.zero_add, List.replicate, List.cons_append, List.nil_append]
  unfold tabG
  generalize dicF pkD V (prs up) (fun p => c p.1 p.2) = C at *
  simp [e_Table_carries, f2, q]
theorem okQ_pkG (p : List Int × List Int) : okQ 64 (pkD p) = true := okQ_rowsC 62 [p.1, p.2]
theorem eqQ_tuG (a b : List Int) : eqQ (tuI a) (tuI b) = decide (a = b) := by rw [eqQ, eqQs_ints]
theorem eqQ_pkG (p q : List Int × List Int) : eqQ (pkD p) (pkD q) = decide (p = q) := by
  rw [eqQ, eqQs, eqQs, eqQs, eqQ_tuG, eqQ_tuG]
  by_cases h : p.1 = q.1 <;> by_cases h' : p.2 = q.2 <;> simp [h, h', Prod.ext_iff]
theorem okQ_tuG (a : List Int) : okQ 64 (tuI a) = true := by
  have := okQ_rowsC 63 [a]
  simpa using this
theorem eqD_FG {α β : Type} [DecidableEq α] [DecidableEq β] {E : α → D} {Q : α → NestedKey} {V : β → D} (K : KeyE E Q) (okV : ∀ b, okQ 64 (V b) = true) (eqq : ∀ a b, eqQ (V a) (V b) = decide (a = b)) (l : List α) (f g : α → β) :
    eqD (dicF E V l f) (dicF E V l g) = .ok (.bl (decide (∀ a ∈ l, f a = g a))) ∧ neD (dicF E V l f) (dicF E V l g) = .ok (.bl (!decide (∀ a ∈ l, f a = g a))) := by
  have sk : ∀ l' : List α, (∀ a ∈ l', a ∈ l) → sameK ((l'.map fun a => (a, f a)).map fun p => E p.1) ((l'.map fun a => (a, f a)).map fun p => V p.2) ((l.map fun a => (a, g a)).map fun p => E p.1) ((l.map fun a => (a, g a)).map fun p => V p.2) = some (decide (∀ a ∈ l', f a = g a)) := fun l' => by
    induction l' with
    | nil => intro _; simp [sameK]
    | cons a l' ih =>
      intro h
      have ih := ih fun b hb => h b (List.mem_cons_of_mem _ hb)
      rw [List.map_cons, List.map_cons, List.map_cons, sameK, K.of]
      have gk := getK_A K (V := V) a (l.map fun a => (a, g a))
      rw [lookA_map g (h a List.mem_cons_self)] at gk
      simp only [gk, Option.map_some]
      have e : eqS (V (f a)) (V (g a)) = .ok (.bl (decide (f a = g a))) := by rw [eqS_ok (okV _) (okV _), eqq]
      simp only [e]
      by_cases hx : f a = g a
      · rw [decide_eq_true hx, ih]
        simp [hx]
      · rw [decide_eq_false hx]
        simp [hx]
  have s := sk l fun _ h => h
  constructor
  · unfold eqD dicF dicA sameD
    simp only [List.length_map, if_true]
    rw [s]
  · unfold neD dicF dicA sameD
    simp only [List.length_map, if_true]
    rw [s]
/-- a lower group by rounds -/
theorem lowR {lo : List Int} (g : OkG lo) (h16 : lo.foldl (· * ·) 1 ≤ 16) : LowG tuI (mems lo) (putV lo) (backV lo) (zeroV lo) where
  nd := mems_nodup lo
  len := by
    have := mems_len (rs := lo) fun n hn => by have := g.ok.two n hn; omega
    omega
  putE := fun a ha b hb => mem_mems.mpr (put_el g.ok (mem_mems.mp ha).len (mem_mems.mp hb).len)
  backE := fun a ha => mem_mems.mpr (back_el g.ok (mem_mems.mp ha).len)
  zeroE := mem_mems.mpr (zero_el g.ok)
  assoc := fun a ha b hb c hc => putV_assoc (mem_mems.mp ha).len (mem_mems.mp hb).len (mem_mems.mp hc).len
  comm := fun a ha b hb => putV_comm (mem_mems.mp ha).len (mem_mems.mp hb).len
  pz := fun a ha => put_zero (mem_mems.mp ha)
  pb := fun a ha => put_backV g.ok (mem_mems.mp ha).len
  okV := okQ_tuG
  eqq := eqQ_tuG
/-- a lower group that is an even tower -/
structure EvenT (lo up : List Int) (c : List Int → List Int → List Int) : Prop where
  t : OkT lo up
  ok : OkC lo up c
  three : Three lo up c
  sym : ∀ x y, OkE up x → OkE up y → c x y = c y x
  small : (towE lo up).length ≤ 16
theorem mem_towG {lo up : List Int} {p : List Int × List Int} : p ∈ towE lo up ↔ OkTE lo up p := by
  unfold towE
  rw [List.mem_flatMap]
  constructor
  · rintro ⟨a, ha, h⟩
    obtain ⟨x, hx, rfl⟩ := List.mem_map.mp h
    exact ⟨mem_mems.mp ha, mem_mems.mp hx⟩
  · rintro ⟨h1, h2⟩
    exact ⟨p.1, mem_mems.mpr h1, List.mem_map.mpr ⟨p.2, mem_mems.mpr h2, rfl⟩⟩
theorem nodup_grid {α β : Type} : ∀ {xs : List α} {ys : List β}, xs.Nodup → ys.Nodup → (xs.flatMap fun a => ys.map fun b => (a, b)).Nodup
  | [], _, _, _ => List.nodup_nil
  | x :: xs, ys, h1, h2 => by
    rw [List.nodup_cons] at h1
    rw [List.flatMap_cons, List.nodup_append]
    refine ⟨?_, nodup_grid h1.2 h2, fun p hp q hq e => ?_⟩
    · rw [List.nodup_iff_pairwise_ne, List.pairwise_map]
      exact (List.nodup_iff_pairwise_ne.mp h2).imp fun hne e => hne (congrArg (·.2) e)
    · subst e
      obtain ⟨b, _, rfl⟩ := List.mem_map.mp hp
      obtain ⟨a, ha, hb⟩ := List.mem_flatMap.mp hq
      obtain ⟨b', _, e⟩ := List.mem_map.mp hb
      have : a = x := congrArg (·.1) e
      exact h1.1 (this ▸ ha)
theorem lowT {lo up : List Int} {c : List Int → List Int → List Int} (E : EvenT lo up c) : LowG pkD (towE lo up) (putT lo up c) (backT lo up c) (zeroT lo up c) where
  nd := nodup_grid (mems_nodup lo) (mems_nodup up)
  len := E.small
  putE := fun a ha b hb => mem_towG.mpr (putT_el E.t E.ok (mem_towG.mp ha) (mem_towG.mp hb))
  backE := fun a ha => mem_towG.mpr (backT_el E.t E.ok (mem_towG.mp ha))
  zeroE := mem_towG.mpr (zeroT_el E.t E.ok)
  assoc := fun a ha b hb c hc => tower_assoc E.t E.ok E.three (mem_towG.mp ha) (mem_towG.mp hb) (mem_towG.mp hc)
  comm := fun a ha b hb => tower_comm E.sym (mem_towG.mp ha) (mem_towG.mp hb)
  pz := fun a ha => tower_rz E.t E.ok E.three (mem_towG.mp ha)
  pb := fun a ha => (put_backT E.t E.ok E.three (mem_towG.mp ha)).1
  okV := okQ_pkG
  eqq := eqQ_pkG
theorem hasT {lo up : List Int} {c : List Int → List Int → List Int} : HasF pkD (towE lo up) (towD lo up c) := ⟨_, rfl, fun a ha => thas_ok (mem_towG.mp ha)⟩
theorem addT {lo up : List Int} {c : List Int → List Int → List Int} (E : EvenT lo up c) : AddF pkD (towE lo up) (putT lo up c) (towD lo up c) := ⟨_, rfl, fun a ha b hb => tadded_ok E.t E.ok (mem_towG.mp ha) (mem_towG.mp hb)⟩
theorem evenT {lo up : List Int} {c : List Int → List Int → List Int} (E : EvenT lo up c) : EvenF (towD lo up c) := ⟨_, rfl, by
  have := teven_ok (c := c) E.t
  rw [break2_none.mpr E.sym] at this
  exact this⟩
/-- a dict filled by a walk, its values of any make -/
theorem fillG {κ β : Type} [DecidableEq κ] {N : Nat} {α : Type} {Q : κ → β → Prop} {f : D → Env → Oc} (A : α → D) (kx : α → κ) (P : List (κ × β) → Env → Prop) : ∀ {X : List α} {L : List (κ × β)} {r : Env}, L.length + X.length ≤ N → (X.map kx).Nodup → (∀ a ∈ X, kx a ∉ L.map (·.1)) →
    (∀ L, L.length < N → ∀ a ∈ X, kx a ∉ L.map (·.1) → ∀ r, P L r → ∃ v r', Q (kx a) v ∧ f (A a) r = .nx r' ∧ P (setA L (kx a) v) r') → P L r →
    ∃ L' r', forD f (X.map A) r = .nx r' ∧ P (L ++ L') r' ∧ L'.map (·.1) = X.map kx ∧ ∀ p ∈ L', Q p.1 p.2
  | [], L, r, _, _, _, _, hp => ⟨[], r, rfl, by simpa using hp, rfl, fun _ h => nomatch h⟩
  | a :: X, L, r, hl, hn, hf, h, hp => by
    rw [List.length_cons] at hl
    rw [List.map_cons, List.nodup_cons] at hn
    obtain ⟨v, r1, hv, e, p1⟩ := h L (by omega) a List.mem_cons_self (hf a List.mem_cons_self) r hp
    rw [setA_new v (hf a List.mem_cons_self)] at p1
    obtain ⟨L', r2, e2, p2, k2, v2⟩ := fillG (Q := Q) A kx P (L := L ++ [(kx a, v)]) (r := r1) (by simp; omega) hn.2 (fun z hz hm => by
      rw [List.map_append, List.mem_append] at hm
      rcases hm with m | m
      · exact hf z (List.mem_cons_of_mem _ hz) m
      · rw [List.map_cons, List.map_nil, List.mem_singleton] at m
        have m : kx z = kx a := m
        exact hn.1 (m ▸ List.mem_map.mpr ⟨z, hz, rfl⟩)) (fun L hL z hz => h L hL z (List.mem_cons_of_mem _ hz)) p1
    refine ⟨(kx a, v) :: L', r2, ?_, by simpa using p2, by simp [k2], fun p hq => ?_⟩
    · rw [List.map_cons, forD_cons, e]
      exact e2
    · rcases List.mem_cons.mp hq with z | z
      · subst z; exact hv
      · exact v2 p z
def cG {α : Type} (V : α → D) (up : List Int) (c : List Int → List Int → α) : D := dicF pkD V (prs up) fun p => c p.1 p.2
theorem getG {α : Type} {V : α → D} {up : List Int} (c : List Int → List Int → α) {x y : List Int} (hx : OkE up x) (hy : OkE up y) : ixD (cG V up c) (.tup [tuI x, tuI y]) = .ok (V (c x y)) := ixD_A (V := V) keyP ((prs up).map fun p => (p, c p.1 p.2)) (x, y) (lookA_map (fun p : List Int × List Int => c p.1 p.2) (mem_prs.mpr ⟨mem_mems.mpr hx, mem_mems.mpr hy⟩))
def orT : Option (List D) → D
  | some l => .tup l
  | none => .non
def s2G {α : Type} [DecidableEq α] (c : List Int → List Int → α) (x y : List Int) : Option (List D) := if c x y = c y x then none else some [tuI x, tuI y]
def s3G {α : Type} [DecidableEq α] (put : α → α → α) (up : List Int) (c : List Int → List Int → α) (x y z : List Int) : Option (List D) := if put (c x y) (c (putV up x y) z) = put (c y z) (c x (putV up y z)) then none else some [tuI x, tuI y, tuI z]
def break2G {α : Type} [DecidableEq α] (up : List Int) (c : List Int → List Int → α) : Option (List D) := (mems up).findSome? fun x => (mems up).findSome? fun y => s2G c x y
def break3G {α : Type} [DecidableEq α] (put : α → α → α) (up : List Int) (c : List Int → List Int → α) : Option (List D) := (mems up).findSome? fun x => (mems up).findSome? fun y => (mems up).findSome? fun z => s3G put up c x y z
theorem some_tup {α : Type} (f : α → Option (List D)) : ∀ l : List α, (l.findSome? f).map D.tup = l.findSome? fun a => (f a).map D.tup
  | [] => rfl
  | a :: l => by
    rw [List.findSome?_cons, List.findSome?_cons]
    cases f a with
    | some v => rfl
    | none => exact some_tup f l
theorem orT_map (o : Option (List D)) : (∀ v, o.map D.tup = some v → orT o = v) ∧ (o.map D.tup = none → orT o = .non) := by
  cases o with
  | none => exact ⟨fun v h => (nomatch h), fun _ => rfl⟩
  | some l => exact ⟨fun v h => (by cases h; rfl), fun h => nomatch h⟩
theorem break2G_ok {α : Type} [DecidableEq α] {V : α → D} {els : List α} {put : α → α → α} {back : α → α} {zero : α} {G : D} {up : List Int} {c : List Int → List Int → α} (L : LowG V els put back zero) (u : OkU up) : d_break_of_two [tabG V G up c] = .ok (orT (break2G up c)) := by
  have m := members_ok u.g.ok u.g.most u.g.prod
  have mm : mthD mt_members (gR up) = .ok (fun ds => d_Rounds_members (gR up :: ds)) := rfl
  have mc : mthD mt_carry (tabG V G up c) = .ok (fun ds => d_Table_carry (tabG V G up c :: ds)) := rfl
  have l2 := l_two
  have fu : fldD (plOf [2] "upper") (tabG V G up c) = .ok (gR up) := fldG_upper G (gR up) [dicF pkD V (prs up) fun p => c p.1 p.2]
  have ca := fun {x y : List Int} (hx : OkE up x) (hy : OkE up y) => carryG_ok (V := V) (G := G) (c := c) hx hy
  generalize tabG V G up c = T at *
  have it : itemsD (.lst ((mems up).map tuI)) = .ok ((mems up).map tuI) := rfl
  have inner := fun (x : List Int) (hx : x ∈ mems up) (s3 : Slot) => forD_find (f := break_of_two_l1) tuI (fun r => ∃ s, r = [.sh T, .sh (.lst ((mems up).map tuI)), .sh (tuI x), s]) (fun y => (s2G c x y).map D.tup) (ds := mems up) (r := [.sh T, .sh (.lst ((mems up).map tuI)), .sh (tuI x), s3]) (fun y hy r ⟨s, e⟩ => by
      subst e
      have q1 := ca (mem_mems.mp hx) (mem_mems.mp hy)
      have q2 := ca (mem_mems.mp hy) (mem_mems.mp hx)
      have ne := L.neV (c x y) (c y x)
      unfold s2G
      by_cases e : c x y = c y x
      · rw [if_pos e]
        rw [decide_eq_true e] at ne
        refine ⟨fun v h => (by cases h), fun _ => ⟨[.sh T, .sh (.lst ((mems up).map tuI)), .sh (tuI x), .sh (tuI y)], ?_, _, rfl⟩⟩
        generalize V (c x y) = v1 at *
        generalize V (c y x) = v2 at *
        generalize D.lst ((mems up).map tuI) = ML at *
        generalize tuI x = X at *
        generalize tuI y = Y at *
        simp [break_of_two_l1, mc, q1, q2, ne]
      · rw [if_neg e]
        rw [decide_eq_false e] at ne
        refine ⟨fun v h => ?_, fun h => (by cases h)⟩
        cases h
        generalize V (c x y) = v1 at *
        generalize V (c y x) = v2 at *
        generalize D.lst ((mems up).map tuI) = ML at *
        generalize tuI x = X at *
        generalize tuI y = Y at *
        simp [break_of_two_l1, mc, q1, q2, ne, l2]) ⟨_, rfl⟩
  have outer := forD_find (f := break_of_two_l2) tuI (fun r => ∃ s2 s3, r = [.sh T, .sh (.lst ((mems up).map tuI)), s2, s3]) (fun x => ((mems up).findSome? fun y => s2G c x y).map D.tup) (ds := mems up) (r := [.sh T, .sh (.lst ((mems up).map tuI)), .un, .un]) (fun x hx r ⟨s2, s3, e⟩ => by
    subst e
    obtain ⟨h1, h2⟩ := inner x hx s3
    rw [some_tup]
    generalize hML : D.lst ((mems up).map tuI) = ML at *
    generalize (mems up).map tuI = MM at *
    generalize tuI x = X at *
    refine ⟨fun v h => ?_, fun h => ?_⟩
    · have := h1 v h
      simp [break_of_two_l2, it, this]
    · obtain ⟨r', e, s, rfl⟩ := h2 h
      exact ⟨[.sh T, .sh ML, .sh X, s], by simp [break_of_two_l2, it, e], _, _, rfl⟩) ⟨_, _, rfl⟩
  refine runD_rt rfl ?_
  simp only [startD, N_break_of_two, List.length_cons, List.length_nil, List.map_cons, List.map_nil, Nat.reduceAdd, Nat.reduceSub, Nat.zero_add, List.replicate, List.cons_append, List.nil_append]
  rw [← some_tup] at outer
  have outer : (∀ v, (break2G up c).map D.tup = some v → _) ∧ ((break2G up c).map D.tup = none → _) := outer
  obtain ⟨o1, o2⟩ := orT_map (break2G up c)
  cases hb : (break2G up c).map D.tup with
  | some v =>
    have := outer.1 v hb
    rw [o1 v hb]
    generalize D.lst ((mems up).map tuI) = ML at *
    generalize (mems up).map tuI = MM at *
    generalize gR up = GU at *
    simp [e_break_of_two, fu, mm, m, it, this]
  | none =>
    obtain ⟨r', e, _⟩ := outer.2 hb
    rw [o2 hb]
    generalize D.lst ((mems up).map tuI) = ML at *
    generalize (mems up).map tuI = MM at *
    generalize gR up = GU at *
    simp [e_break_of_two, fu, mm, m, it, e]
theorem break3G_ok {α : Type} [DecidableEq α] {V : α → D} {els : List α} {put : α → α → α} {back : α → α} {zero : α} {G : D} {up : List Int} {c : List Int → List Int → α} (L : LowG V els put back zero) (u : OkU up) (fa : AddF V els put G) (hc : OkCG els up c) : d_break_of_three [tabG V G up c] = .ok (orT (break3G put up c)) := by
  have m := members_ok u.g.ok u.g.most u.g.prod
  have mm : mthD mt_members_T (gR up) = .ok (fun ds => d_Rounds_members (gR up :: ds)) := rfl
  have ma : mthD mt_added_T (gR up) = .ok (fun ds => d_Group_added (gR up :: ds)) := rfl
  have mc : mthD mt_carry (tabG V G up c) = .ok (fun ds => d_Table_carry (tabG V G up c :: ds)) := rfl
  have l3 : 3 ≤ lim := by decide
  have fl : fldD (plOf [2] "lower") (tabG V G up c) = .ok G := fldG_lower G (gR up) [dicF pkD V (prs up) fun p => c p.1 p.2]
  have fu : fldD (plOf [2] "upper") (tabG V G up c) = .ok (gR up) := fldG_upper G (gR up) [dicF pkD V (prs up) fun p => c p.1 p.2]
  have ca := fun {x y : List Int} (hx : OkE up x) (hy : OkE up y) => carryG_ok (V := V) (G := G) (c := c) hx hy
  obtain ⟨f, f1, f2⟩ := fa
  generalize tabG V G up c = T at *
  have it : itemsD (.lst ((mems up).map tuI)) = .ok ((mems up).map tuI) := rfl
  let E (s4 s5 s6 s7 s8 : Slot) : Env := [.sh T, .sh G, .sh (gR up), .sh (.lst ((mems up).map tuI)), s4, s5, s6, s7, s8]
  have in1 := fun (x y : List Int) (hx : x ∈ mems up) (hy : y ∈ mems up) (s6 s7 s8 : Slot) => forD_find (f := break_of_three_l1) tuI (fun r => ∃ s6 s7 s8, r = E (.sh (tuI x)) (.sh (tuI y)) s6 s7 s8) (fun z => (s3G put up c x y z).map D.tup) (ds := mems up) (r := E (.sh (tuI x)) (.sh (tuI y)) s6 s7 s8) (fun z hz r ⟨s6, s7, s8, e⟩ => by
      subst e
      have hx := mem_mems.mp hx
      have hy := mem_mems.mp hy
      have hz := mem_mems.mp hz
      have pxy := put_el u.g.ok hx.len hy.len
      have pyz := put_el u.g.ok hy.len hz.len
      have q1 := ca hx hy
      have q2 := ca pxy hz
      have q3 := ca hy hz
      have q4 := ca hx pyz
      have a1 := added_ok u.g.ok hx hy
      have a2 := added_ok u.g.ok hy hz
      have a3 := f2 _ (hc x y hx hy) _ (hc _ z pxy hz)
      have a4 := f2 _ (hc y z hy hz) _ (hc x _ hx pyz)
      have ne := L.neV (put (c x y) (c (putV up x y) z)) (put (c y z) (c x (putV up y z)))
      unfold s3G
      by_cases e : put (c x y) (c (putV up x y) z) = put (c y z) (c x (putV up y z))
      · rw [if_pos e]
        rw [decide_eq_true e] at ne
        refine ⟨fun v h => (by cases h), fun _ => ⟨E (.sh (tuI x)) (.sh (tuI y)) (.sh (tuI z)) (.sh (V (put (c x y) (c (putV up x y) z)))) (.sh (V (put (c y z) (c x (putV up y z))))), ?_, _, _, _, rfl⟩⟩
        simp only [E]
        generalize V (put (c x y) (c (putV up x y) z)) = v1 at *
        generalize V (put (c y z) (c x (putV up y z))) = v2 at *
        generalize V (c x y) = v3 at *
        generalize V (c (putV up x y) z) = v4 at *
        generalize V (c y z) = v5 at *
        generalize V (c x (putV up y z)) = v6 at *
        generalize D.lst ((mems up).map tuI) = ML at *
        generalize gR up = GU at *
        generalize tuI (putV up x y) = XY at *
        generalize tuI (putV up y z) = YZ at *
        generalize tuI x = X at *
        generalize tuI y = Y at *
        generalize tuI z = Z at *
        simp [break_of_three_l1, mc, ma, f1, q1, q2, q3, q4, a1, a2, a3, a4, ne]
      · rw [if_neg e]
        rw [decide_eq_false e] at ne
        refine ⟨fun v h => ?_, fun h => (by cases h)⟩
        cases h
        simp only [E]
        generalize V (put (c x y) (c (putV up x y) z)) = v1 at *
        generalize V (put (c y z) (c x (putV up y z))) = v2 at *
        generalize V (c x y) = v3 at *
        generalize V (c (putV up x y) z) = v4 at *
        generalize V (c y z) = v5 at *
        generalize V (c x (putV up y z)) = v6 at *
        generalize D.lst ((mems up).map tuI) = ML at *
        generalize gR up = GU at *
        generalize tuI (putV up x y) = XY at *
        generalize tuI (putV up y z) = YZ at *
        generalize tuI x = X at *
        generalize tuI y = Y at *
        generalize tuI z = Z at *
        simp [break_of_three_l1, mc, ma, f1, q1, q2, q3, q4, a1, a2, a3, a4, ne, l3]) ⟨_, _, _, rfl⟩
  have in2 := fun (x : List Int) (hx : x ∈ mems up) (s5 s6 s7 s8 : Slot) => forD_find (f := break_of_three_l2) tuI (fun r => ∃ s5 s6 s7 s8, r = E (.sh (tuI x)) s5 s6 s7 s8) (fun y => ((mems up).findSome? fun z => s3G put up c x y z).map D.tup) (ds := mems up) (r := E (.sh (tuI x)) s5 s6 s7 s8) (fun y hy r ⟨s5, s6, s7, s8, e⟩ => by
      subst e
      obtain ⟨h1, h2⟩ := in1 x y hx hy s6 s7 s8
      rw [some_tup]
      simp only [E] at h1 h2 ⊢
      generalize hML : D.lst ((mems up).map tuI) = ML at *
      generalize (mems up).map tuI = MM at *
      generalize gR up = GU at *
      generalize tuI x = X at *
      generalize tuI y = Y at *
      refine ⟨fun v h => ?_, fun h => ?_⟩
      · have := h1 v h
        simp [break_of_three_l2, it, this]
      · obtain ⟨r', e, s6', s7', s8', rfl⟩ := h2 h
        exact ⟨[.sh T, .sh G, .sh GU, .sh ML, .sh X, .sh Y, s6', s7', s8'], by simp [break_of_three_l2, it, e], _, _, _, _, rfl⟩) ⟨_, _, _, _, rfl⟩
  have in3 := forD_find (f := break_of_three_l3) tuI (fun r => ∃ s4 s5 s6 s7 s8, r = E s4 s5 s6 s7 s8) (fun x => ((mems up).findSome? fun y => (mems up).findSome? fun z => s3G put up c x y z).map D.tup) (ds := mems up) (r := E .un .un .un .un .un) (fun x hx r ⟨s4, s5, s6, s7, s8, e⟩ => by
      subst e
      obtain ⟨h1, h2⟩ := in2 x hx s5 s6 s7 s8
      rw [some_tup]
      simp only [E] at h1 h2 ⊢
      generalize hML : D.lst ((mems up).map tuI) = ML at *
      generalize (mems up).map tuI = MM at *
      generalize gR up = GU at *
      generalize tuI x = X at *
      refine ⟨fun v h => ?_, fun h => ?_⟩
      · have := h1 v h
        simp [break_of_three_l3, it, this]
      · obtain ⟨r', e, s5', s6', s7', s8', rfl⟩ := h2 h
        exact ⟨[.sh T, .sh G, .sh GU, .sh ML, .sh X, s5', s6', s7', s8'], by simp [break_of_three_l3, it, e], _, _, _, _, _, rfl⟩) ⟨_, _, _, _, _, rfl⟩
  refine runD_rt rfl ?_
  simp only [startD, N_break_of_three, List.length_cons, List.length_nil, List.map_cons, List.map_nil, Nat.reduceAdd, Nat.reduceSub, Nat.zero_add, List.replicate, List.cons_append, List.nil_append]
  rw [← some_tup] at in3
  simp only [E] at in3
  have in3 : (∀ v, (break3G put up c).map D.tup = some v → _) ∧ ((break3G put up c).map D.tup = none → _) := in3
  obtain ⟨o1, o2⟩ := orT_map (break3G put up c)
  cases hb : (break3G put up c).map D.tup with
  | some v =>
    have := in3.1 v hb
    rw [o1 v hb]
    generalize D.lst ((mems up).map tuI) = ML at *
    generalize (mems up).map tuI = MM at *
    generalize gR up = GU at *
    simp [e_break_of_three, fl, fu, mm, m, it, this]
  | none =>
    obtain ⟨r', e, _⟩ := in3.2 hb
    rw [o2 hb]
    generalize D.lst ((mems up).map tuI) = ML at *
    generalize (mems up).map tuI = MM at *
    generalize gR up = GU at *
    simp [e_break_of_three, fl, fu, mm, m, it, e]
section
variable {α : Type} [DecidableEq α] {V : α → D} {Q : α → NestedKey} {els : List α} {put : α → α → α} {back : α → α} {zero : α}
/-- the tower of a table over any lower group -/
def towG (V : α → D) (G : D) (up : List Int) (c : List Int → List Int → α) : D := .obj 1 [tabG V G up c, V (c (zeroV up) (zeroV up))]
theorem towG_ok {G : D} {up : List Int} {c : List Int → List Int → α} (L : LowG V els put back zero) (u : OkU up) (fa : AddF V els put G) (hc : OkCG els up c) (hb : break3G put up c = none) : d_Tower_init [tabG V G up c] = .ok (towG V G up c) := by
  have b := break3G_ok L u fa hc
  rw [hb] at b
  have z := nought_ok u.g.ok
  have ze := zero_el u.g.ok
  have cr := carryG_ok (V := V) (G := G) (c := c) ze ze
  have fu : fldD (plOf [2] "upper") (tabG V G up c) = .ok (gR up) := fldG_upper G (gR up) [dicF pkD V (prs up) fun p => c p.1 p.2]
  have b : d_break_of_three [tabG V G up c] = .ok .non := b
  have e1 : e_Tower_init (startI N_Tower_init.length 1 [tabG V G up c]) = .nx [.ow .flat (towG V G up c), .sh (tabG V G up c), .sh .non] := by
    have st : startI N_Tower_init.length 1 [tabG V G up c] = [.ow .flat (.obj 1 []), .sh (tabG V G up c), .un] := rfl
    rw [st]
    have f0 : setF 0 1 "table" .sh (tabG V G up c) [.ow .flat (.obj 1 []), .sh (tabG V G up c), .sh .non] = .nx [.ow .flat (.obj 1 [tabG V G up c]), .sh (tabG V G up c), .sh .non] := by kernel_rfl
    have f1 : setF 0 1 "ground" .sh (V (c (zeroV up) (zeroV up))) [.ow .flat (.obj 1 [tabG V G up c]), .sh (tabG V G up c), .sh .non] = .nx [.ow .flat (towG V G up c), .sh (tabG V G up c), .sh .non] := by kernel_rfl
    have nn : notN .non .non = .ok (.bl false) := by kernel_rfl
    have mcs : mthD mt_carry (tabG V G up c) = .ok (fun ds => d_Table_carry (tabG V G up c :: ds)) := rfl
    have mn : mthD mt_nought (gR up) = .ok (fun ds => d_Rounds_nought (gR up :: ds)) := rfl
    generalize towG V G up c = TW at *
    generalize V (c (zeroV up) (zeroV up)) = g at *
    generalize tabG V G up c = T at *
    generalize gR up = GU at *
    generalize tuI (zeroV up) = Z at *
    simp [e_Tower_init, b, nn, f0, f1, fu, mcs, mn, z, cr]
  exact runI_nx rfl e1
theorem towG_er {G : D} {up : List Int} {c : List Int → List Int → α} {v : List D} (L : LowG V els put back zero) (u : OkU up) (fa : AddF V els put G) (hc : OkCG els up c) (hb : break3G put up c = some v) : d_Tower_init [tabG V G up c] = .er (.exc 24 [.tup v]) := by
  have b := break3G_ok L u fa hc
  rw [hb] at b
  have b : d_break_of_three [tabG V G up c] = .ok (.tup v) := b
  have e1 : e_Tower_init (startI N_Tower_init.length 1 [tabG V G up c]) = .er (.exc 24 [.tup v]) [.ow .flat (.obj 1 []), .sh (tabG V G up c), .sh (.tup v)] := by
    have st : startI N_Tower_init.length 1 [tabG V G up c] = [.ow .flat (.obj 1 []), .sh (tabG V G up c), .un] := rfl
    rw [st]
    have nn : notN (.tup v) .non = .ok (.bl true) := rfl
    have rz : raiseD 24 [.tup v] [.ow .flat (.obj 1 []), .sh (tabG V G up c), .sh (.tup v)] = .er (.exc 24 [.tup v]) [.ow .flat (.obj 1 []), .sh (tabG V G up c), .sh (.tup v)] := by kernel_rfl
    generalize D.tup v = W at *
    generalize tabG V G up c = T at *
    simp [e_Tower_init, b, nn, rz]
  exact runI_er rfl e1
/-- all pairs of a lower and an upper element -/
def allG (els : List α) (up : List Int) : List (α × List Int) := els.flatMap fun a => (mems up).map fun x => (a, x)
def paG (V : α → D) (p : α × List Int) : D := .tup [V p.1, tuI p.2]
theorem len_allG (L : LowG V els put back zero) {up : List Int} (u : OkU up) : (allG els up).length ≤ 144 := by
  have l9 := u.mems_le
  have l16 := L.len
  have e : (allG els up).length = els.length * (mems up).length := by unfold allG; simp [List.length_flatMap, sum_const]
  rw [e]
  exact Nat.mul_le_mul l16 l9
def MemF (V : α → D) (els : List α) (G : D) : Prop := ∃ f, mthD mt_members_T G = .ok f ∧ f [] = .ok (.lst (els.map V))
theorem members2_ok {G : D} {up : List Int} {c : List Int → List Int → α} (L : LowG V els put back zero) (u : OkU up) (fm : MemF V els G) : d_Tower_members_2 [towG V G up c] = .ok (.lst ((allG els up).map (paG V))) := by
  obtain ⟨f, f1, f2⟩ := fm
  have m := members_ok u.g.ok u.g.most u.g.prod
  have mm : mthD mt_members_T (gR up) = .ok (fun ds => d_Rounds_members (gR up :: ds)) := rfl
  have l2 := l_two
  have ft : fldD (plOf [1] "table") (towG V G up c) = .ok (tabG V G up c) := fld_table _ _
  have fl : fldD (plOf [2] "lower") (tabG V G up c) = .ok G := fldG_lower G (gR up) [dicF pkD V (prs up) fun p => c p.1 p.2]
  have fu : fldD (plOf [2] "upper") (tabG V G up c) = .ok (gR up) := fldG_upper G (gR up) [dicF pkD V (prs up) fun p => c p.1 p.2]
  have l144 := len_allG L u
  have it1 : itemsD (.lst ((mems up).map tuI)) = .ok ((mems up).map tuI) := rfl
  obtain ⟨r', lp, s2, s3, e⟩ := forD_row (pre0 := els) (f := Tower_members_2_l2) V (fun done r => ∃ s2 s3, r = [.sh (towG V G up c), .ow .flat (.lst ((allG done up).map (paG V))), s2, s3])
    (ds := els) (pre := []) (r := [.sh (towG V G up c), .ow .flat (.lst []), .un, .un]) (fun done a hd r ⟨s2, s3, e⟩ => by
      subst e
      obtain ⟨rest, hr⟩ := hd
      have cc : ∀ s1 s3, Tower_members_2_c1 [.sh (towG V G up c), s1, .sh (V a), s3] ((mems up).map tuI) = .ok ((mems up).map fun x => paG V (a, x)) := fun s1 s3 => by
        unfold Tower_members_2_c1
        refine lcD_gmap tuI (fun x => paG V (a, x)) fun x _ => ⟨_, rfl, rfl, ?_⟩
        show _ = Res.ok (D.tup [V a, tuI x])
        generalize towG V G up c = TW at *
        generalize V a = A at *
        generalize tuI x = X at *
        simp [wipeR, l2]
      have en : (allG (done ++ [a]) up).map (paG V) = (allG done up).map (paG V) ++ (mems up).map fun x => paG V (a, x) := by
        unfold allG
        rw [List.flatMap_append, List.map_append]
        simp
      refine ⟨[.sh (towG V G up c), .ow .flat (.lst ((allG (done ++ [a]) up).map (paG V))), .sh (V a), s3], ?_, _, _, rfl⟩
      rw [en]
      have hlim : ((allG done up).map (paG V)).length + ((mems up).map fun x => paG V (a, x)).length ≤ lim := by
        have h1 : (allG (done ++ [a]) up).length ≤ (allG els up).length := by
          rw [← hr]
          unfold allG
          rw [List.flatMap_append (xs := done ++ [a])]
          simp
        have h2 := congrArg List.length en
        simp only [List.length_append, List.length_map] at h2 ⊢
        unfold lim
        omega
      have hl2 : ((mems up).map fun x => paG V (a, x)).length ≤ lim := by omega
      generalize hPL : ((mems up).map fun x => paG V (a, x)) = PL at *
      generalize hDL : (allG done up).map (paG V) = DL at *
      generalize D.lst ((mems up).map tuI) = ML at *
      generalize (mems up).map tuI = MM at *
      generalize towG V G up c = TW at *
      generalize tabG V G up c = T at *
      generalize V a = A at *
      generalize gR up = GU at *
      simp [Tower_members_2_l2, ft, fu, mm, m, it1, cc, extG, ownL, hlim, hl2]) (by simp) ⟨.un, .un, rfl⟩
  subst e
  rw [List.nil_append] at lp
  have it : itemsD (.lst (els.map V)) = .ok (els.map V) := rfl
  refine runD_rt rfl ?_
  simp only [startD, N_Tower_members, List.length_cons, List.length_nil, List.map_cons, List.map_nil, Nat.reduceAdd, Nat.reduceSub, Nat.zero_add, List.replicate, List.cons_append, List.nil_append]
  generalize (allG els up).map (paG V) = AL at *
  generalize D.lst (els.map V) = EL at *
  generalize els.map V = EE at *
  generalize towG V G up c = TW at *
  generalize tabG V G up c = T at *
  simp [e_Tower_members_2, ft, fl, f1, f2, it, lp, freeze]
end
theorem q_odd2_ok {lo : List Int} {c : Int} (g : OkG lo) : ∃ x, OkE lo x ∧ timesV lo 2 x = zeroV lo ∧ d_q_odd_element [tuI lo, .int 2, .int 2, .int c] = .ok (tuI x) := by
  have l7 := g.ok.len
  have g1 : d_q_gcd [.int 2, .int 2] = .ok (.int 2) := q_gcd_ok 2 2 (by omega)
  obtain ⟨r', loop, x, c', s5, s6, ⟨hx, hz⟩, rfl⟩ := forD_row (pre0 := lo) (f := q_odd_element_l1) D.int (fun pre r => ∃ (x : List Int) (c' : Int) (s5 s6 : Slot), (OkE pre x ∧ ∀ p ∈ x.zip pre, 2 * p.1 % p.2 = 0) ∧ r = [.sh (tuI lo), .sh (.int 2), .sh (.int 2), .sh (.int c'), .ow .flat (liI x), s5, s6]) (ds := lo) (pre := []) (r := [.sh (tuI lo), .sh (.int 2), .sh (.int 2), .sh (.int c), .ow .flat (liI []), .un, .un]) (fun pre n hpre r ⟨x, c', s5, s6, ⟨hx, hz⟩, e⟩ => by
    subst e
    obtain ⟨post, hpost⟩ := hpre
    have hn : n ∈ lo := by rw [← hpost]; simp
    have n2 := g.ok.two n hn
    have n3 := g.most n hn
    have lp : pre.length < 1000 := by
      have := congrArg List.length hpost
      simp at this
      omega
    have g2 : d_q_gcd [.int n, .int 2] = .ok (.int ((Nat.gcd n.toNat 2 : Nat) : Int)) := by
      have g2 := q_gcd_ok n.toNat 2 (by omega)
      rw [Int.toNat_of_nonneg (by omega)] at g2
      exact g2
    have p1 : 0 < Nat.gcd n.toNat 2 := Nat.gcd_pos_of_pos_left _ (by omega)
    have p2 : Nat.gcd n.toNat 2 ∣ n.toNat := Nat.gcd_dvd_left _ _
    have p3 : Nat.gcd n.toNat 2 ≤ n.toNat := Nat.le_of_dvd (by omega) p2
    have p4 : Nat.gcd n.toNat 2 ∣ 2 := Nat.gcd_dvd_right _ _
    generalize Nat.gcd n.toNat 2 = p at *
    obtain ⟨q, hq⟩ := p2
    have hq : n = (p : Int) * (q : Int) := by
      have : ((n.toNat : Nat) : Int) = ((p * q : Nat) : Int) := by rw [hq]
      rw [Int.toNat_of_nonneg (by omega), Int.natCast_mul] at this
      exact this
    have dq : n / (p : Int) = q := by rw [hq]; exact Int.mul_ediv_cancel_left _ (by omega)
    have bp := bits_lt (i := (p : Int)) (n := 8) (by omega) (by omega)
    have dv1 := divD_ok (i := n) (j := (p : Int)) (by omega) (by omega)
    have dv2 := divD_ok (i := c') (j := (p : Int)) (by omega) (by omega)
    have md := modD_ok (i := c') (j := (p : Int)) (by omega)
    have m0 := Int.emod_nonneg c' (b := (p : Int)) (by omega)
    have m1 := Int.emod_lt_of_pos c' (b := (p : Int)) (by omega)
    have q0 : (1 : Int) ≤ q := by
      rcases Nat.eq_zero_or_pos q with h | h
      · subst h; simp at hq; omega
      · omega
    have ql : (q : Int) ≤ n := by
      have : (1 : Int) * q ≤ p * q := Int.mul_le_mul_of_nonneg_right (by omega) (by omega)
      omega
    have ml := mulD_small (i := (q : Int)) (j := c' % (p : Int)) (.inr ⟨by omega, by omega⟩)
    have v0 : 0 ≤ (q : Int) * (c' % p) := Int.mul_nonneg (by omega) m0
    have v1 : (q : Int) * (c' % p) < n := by
      have h1 : (q : Int) * (c' % p) ≤ q * (p - 1) := Int.mul_le_mul_of_nonneg_left (by omega) (by omega)
      have h2 : (q : Int) * (p - 1) = p * q - q := by rw [Int.mul_sub, Int.mul_comm, Int.mul_one]
      omega
    have kill : 2 * ((q : Int) * (c' % p)) % n = 0 := by
      obtain ⟨e, he⟩ := p4
      have he' : (2 : Int) = (p : Int) * (e : Int) := by
        have : ((2 : Nat) : Int) = ((p * e : Nat) : Int) := by rw [← he]
        rw [Int.natCast_mul] at this
        exact this
      have : 2 * ((q : Int) * (c' % p)) = n * ((e : Int) * (c' % p)) := by
        rw [hq, he']
        simp only [Int.mul_assoc, Int.mul_left_comm]
      rw [this]
      exact Int.mul_emod_right _ _
    have lx := hx.len
    have hl : x.length < lim := by unfold lim; omega
    rw [dq] at dv1
    refine ⟨[.sh (tuI lo), .sh (.int 2), .sh (.int 2), .sh (.int (c' / p)), .ow .flat (liI (x ++ [(q : Int) * (c' % p)])), .sh (.int n), .sh (.int p)], ?_, _, _, _, _, ⟨OkE.snoc hx v0 v1, fun w hw => by
      rw [List.zip_append lx] at hw
      rcases List.mem_append.mp hw with z | z
      · exact hz w z
      · simp at z
        rw [z]
        exact kill⟩, rfl⟩
    clear kill
    generalize (q : Int) * (c' % p) = v at *
    simp [q_odd_element_l1, g1, g2, appG, ownL, dv1, md, ml, hl, dv2]) rfl ⟨[], _, _, _, ⟨OkE.nil, fun p hp => nomatch hp⟩, rfl⟩
  simp only [List.nil_append] at loop hx hz
  refine ⟨x, hx, ?_, ?_⟩
  · unfold timesV zeroV
    have : (x.zip lo).map (fun p => 2 * p.1 % p.2) = (x.zip lo).map fun _ => 0 := List.map_congr_left hz
    rw [this]
    have hl := hx.len
    refine List.ext_getElem (by simp; omega) fun i h1 h2 => by simp
  have l0 : 0 ≤ lim := by decide
  have lx := hx.len
  have hl : x.length ≤ lim := by unfold lim; omega
  refine runD_rt rfl ?_
  simp only [startD, N_q_odd_element, List.length_cons, List.length_nil, List.map_cons, List.map_nil, Nat.reduceAdd, Nat.reduceSub, Nat.zero_add, List.replicate, List.cons_append, List.nil_append]
  rw [show liI [] = D.lst [] from rfl] at loop
  simp [e_q_odd_element, l0, loop, hl]
def pairW (lo : List Int) (c : List Int → List Int → List Int) (i j : Nat) (a : List Int) (x y : List Int) : List Int := putV lo (c x y) (timesV lo (x.getD i 0 * y.getD j 0) a)
theorem q_paired_is {lo up a : List Int} {c : List Int → List Int → List Int} {i j : Nat} (t : OkT lo up) (hc : OkC lo up c) (ha : OkE lo a) (hi : i < up.length) (hj : j < up.length) : d_q_paired [tuI lo, tuI up, cD up c, .int i, .int j, tuI a] = .ok (cD up (pairW lo c i j a)) := by
  have l81 := t.prs_le
  have l2 := l_two
  let E (L : List ((List Int × List Int) × List Int)) (s7 s8 : Slot) : Env := [.sh (tuI lo), .sh (tuI up), .sh (cD up c), .sh (.int i), .sh (.int j), .sh (tuI a), .ow .flat (dicA pkD tuI L), s7, s8]
  obtain ⟨r2, lp2, s7, s8, e⟩ := fillRule (N := 81) (f := q_paired_l1) pkD (fun p : List Int × List Int => p) (fun p => pairW lo c i j a p.1 p.2) (fun L r => ∃ s7 s8, r = E L s7 s8)
    (X := prs up) (L := []) (r := E [] .un .un) (by rw [prs_len]; simpa using l81) (by simpa using prs_nodup up) (by simp)
    (fun L hL p hp _ r ⟨s7, s8, e⟩ => by
      subst e
      obtain ⟨x, y⟩ := p
      obtain ⟨hx, hy⟩ := mem_prs.mp hp
      have hx := mem_mems.mp hx
      have hy := mem_mems.mp hy
      have gt : ixD (cD up c) (.tup [tuI x, tuI y]) = .ok (tuI (c x y)) := getC (lo := lo) (up := up) c hx hy
      have e1 := ixD_tI (xs := x) (i := i) (by rw [hx.len]; exact hi)
      have e3 := ixD_tI (xs := y) (i := j) (by rw [hy.len]; exact hj)
      obtain ⟨b1, b2⟩ := hx.get hi
      obtain ⟨b3, b4⟩ := hy.get hj
      have b5 := up_at t hi
      have b6 := up_at t hj
      have ml := mulD_small (i := x.getD i 0) (j := y.getD j 0) (.inr ⟨by omega, by omega⟩)
      have tm := q_times_ok (n := x.getD i 0 * y.getD j 0) t.g1.ok ha t.g1.most
      have tl := timesV_el (n := x.getD i 0 * y.getD j 0) t.g1.ok ha
      have ad := q_added_ok t.g1.ok (hc x y hx hy) tl
      have pe := put_el t.g1.ok (hc x y hx hy).len tl.len
      show ∃ r', q_paired_l1 (.tup [tuI x, tuI y]) _ = .nx r' ∧ ∃ s7 s8, r' = E (setA L (x, y) (putV lo (c x y) (timesV lo (x.getD i 0 * y.getD j 0) a))) s7 s8
      generalize putV lo (c x y) (timesV lo (x.getD i 0 * y.getD j 0) a) = v at *
      have sd : setD (dicA pkD tuI L) (.tup [tuI x, tuI y]) (tuI v) = .ok (dicA pkD tuI (setA L (x, y) v)) := setD_A (V := tuI) keyP L (x, y) v (by unfold lim; omega)
      refine ⟨E (setA L (x, y) v) (.sh (tuI x)) (.sh (tuI y)), ?_, _, _, rfl⟩
      simp only [E]
      simp [-ixD_tup, -List.getD_eq_getElem?_getD, q_paired_l1, setG, ownF, gt, e1, e3, l2, ml, tm, ad, sd]) ⟨_, _, rfl⟩
  subst e
  simp only [List.nil_append] at *
  have ed : cD up (pairW lo c i j a) = dicA pkD tuI ((prs up).map fun p => (p, pairW lo c i j a p.1 p.2)) := rfl
  rw [ed]
  have ks : ((prs up).map fun p => (p, c p.1 p.2)).map (fun p => pkD p.1) = (prs up).map pkD := by rw [List.map_map]; rfl
  have it : itemsD (cD up c) = .ok ((prs up).map pkD) := by
    show itemsD (dicA pkD tuI ((prs up).map fun p => (p, c p.1 p.2))) = _
    rw [itemsD_A, ks]
  first | refine runD_rt rfl ?_ | refine runO_rt rfl ?_
  simp only [startD, N_q_paired, List.length_cons, List.length_nil, List.map_cons, List.map_nil, Nat.reduceAdd, Nat.reduceSub, Nat.zero_add, List.replicate, List.cons_append, List.nil_append]
  simp only [E] at lp2
  rw [show (dicA pkD tuI ([] : List ((List Int × List Int) × List Int))) = .dic [] [] from rfl] at lp2
  generalize dicA pkD tuI ((prs up).map fun p => (p, pairW lo c i j a p.1 p.2)) = D2 at *
  generalize cD up c = C at *
  simp [-itemsD_A, e_q_paired, it, lp2, freeze, giveG]
/-- the pair table of two rounds of 2 put to a plain one is one of the known kinds -/
theorem pairW_whole {lo a : List Int} {ps : List (List Int)} {hf : List Int → List Int} (t : OkT lo [2, 2]) (hp : ∀ k, k < 2 → OkE lo (ps.getD k [])) (oh : OkH lo [2, 2] hf) (ha : OkE lo a) {x y : List Int} (hx : OkE [2, 2] x) (hy : OkE [2, 2] y) (okc : OkC lo [2, 2] (wholeV lo [2, 2] ps (zeroL lo [2, 2]) hf)) :
    pairW lo (wholeV lo [2, 2] ps (zeroL lo [2, 2]) hf) 0 1 a x y = wholeV lo [2, 2] ps [((0, 1), a)] hf x y := by
  have g := t.g1.ok
  have z := zero_el g
  have b0 : OkE lo ((List.range 2).foldl (fun f k => if ([2, 2] : List Int).getD k 0 ≤ x.getD k 0 + y.getD k 0 then putV lo f (ps.getD k []) else f) (zeroV lo)) := by
    have := foldX_el (lo := lo) (up := [2, 2]) (ps := ps) (x := x) (y := y) g hp (l := List.range 2) (f := zeroV lo) (fun k hk => List.mem_range.mp hk) z
    exact this
  have o := own_mod (lo := lo) t.g2.ok oh hx hy
  have tl := timesV_el (n := x.getD 0 0 * y.getD 1 0) g ha
  have e0 : carryV lo [2, 2] ps (zeroL lo [2, 2]) x y = putV lo ((List.range 2).foldl (fun f k => if ([2, 2] : List Int).getD k 0 ≤ x.getD k 0 + y.getD k 0 then putV lo f (ps.getD k []) else f) (zeroV lo)) (timesV lo (x.getD 0 0 * y.getD 1 0) (zeroV lo)) := rfl
  have e1 : carryV lo [2, 2] ps [((0, 1), a)] x y = putV lo ((List.range 2).foldl (fun f k => if ([2, 2] : List Int).getD k 0 ≤ x.getD k 0 + y.getD k 0 then putV lo f (ps.getD k []) else f) (zeroV lo)) (timesV lo (x.getD 0 0 * y.getD 1 0) a) := rfl
  unfold pairW wholeV
  rw [e0, e1]
  generalize ((List.range 2).foldl (fun f k => if ([2, 2] : List Int).getD k 0 ≤ x.getD k 0 + y.getD k 0 then putV lo f (ps.getD k []) else f) (zeroV lo)) = b at *
  rw [times_zeroX, put_zero b0]
  exact put_out b0.len o.1 tl.len
theorem pair_three {lo a : List Int} {ps : List (List Int)} {hf : List Int → List Int} (t : OkT lo [2, 2]) (pl : ps.length = 2) (hp : ∀ k, k < 2 → OkE lo (ps.getD k [])) (oh : OkH lo [2, 2] hf) (ha : OkE lo a) (h2 : timesV lo 2 a = zeroV lo) (okc : OkC lo [2, 2] (wholeV lo [2, 2] ps (zeroL lo [2, 2]) hf)) :
    OkC lo [2, 2] (pairW lo (wholeV lo [2, 2] ps (zeroL lo [2, 2]) hf) 0 1 a) ∧ Three lo [2, 2] (pairW lo (wholeV lo [2, 2] ps (zeroL lo [2, 2]) hf) 0 1 a) := by
  have e := fun {x y : List Int} (hx : OkE [2, 2] x) (hy : OkE [2, 2] y) => pairW_whole t hp oh ha hx hy okc
  have P : OkP lo [2, 2] ps [((0, 1), a)] := ⟨pl, hp, rfl, fun q hq => by rw [List.mem_singleton.mp hq]; exact ha⟩
  have Q : OkQ lo [2, 2] [((0, 1), a)] := fun q hq => by
    rw [List.mem_singleton.mp hq]
    exact ⟨h2, h2⟩
  have th := whole_three P Q t.g2.ok oh
  have oc : OkC lo [2, 2] (pairW lo (wholeV lo [2, 2] ps (zeroL lo [2, 2]) hf) 0 1 a) := fun x y hx hy => put_el t.g1.ok (okc x y hx hy).len (timesV_el t.g1.ok ha).len
  refine ⟨oc, fun x y z hx hy hz => ?_⟩
  have hxy := put_el t.g2.ok hx.len hy.len
  have hyz := put_el t.g2.ok hy.len hz.len
  rw [e hx hy, e hxy hz, e hy hz, e hx hyz]
  exact th x y z hx hy hz
/-- the ground that the law lays -/
theorem ground_ok (ns : List Int) : ∃ (lo ul : List Int) (c : List Int → List Int → List Int), OkT lo ul ∧ (lo.foldl (· * ·) 1 ≤ 4 ∧ ul.foldl (· * ·) 1 ≤ 4) ∧ OkC lo ul c ∧ Three lo ul c ∧ d_q_ground [.scr ns] = .ok (.tup [tuI lo, tuI ul, cD ul c]) := by
  have ce := fun (k : Int) (h0 : 0 ≤ k) (h : k ≤ 100) => cell_ok ns k h0 (by omega)
  obtain ⟨lo, m1, er1⟩ := q_rounds_ok (c := cellV ns 0) (most := 4) (gr := 4) (by omega) (by omega) (by omega)
  obtain ⟨ul, m2, er2⟩ := q_rounds_ok (c := cellV ns 1) (most := 4) (gr := 4) (by omega) (by omega) (by omega)
  have g22 : OkG [2, 2] := ⟨⟨by decide, by decide⟩, by decide, by decide⟩
  have ce0 := ce 0 (by omega) (by omega)
  have ce1 := ce 1 (by omega) (by omega)
  have ce2 := ce 2 (by omega) (by omega)
  have ce3 := ce 3 (by omega) (by omega)
  have ce4 := ce 4 (by omega) (by omega)
  generalize cellV ns 2 = w at *
  have m4 := modD_ok (i := w) (j := 4) (by omega)
  have d4 := divD_ok (i := w) (j := 4) (by omega) (by decide)
  have l2 := l_two
  have l3 : 3 ≤ lim := by decide
  by_cases h : w % 4 = 1
  · have eq : eqD (.int (w % 4)) (.int 1) = .ok (.bl true) := by simp [h]
    have t : OkT lo [2, 2] := ⟨m1.ok, g22, by have := m1.prod; omega, by decide⟩
    obtain ⟨ps, hf, pl, hp, oh, okc, et⟩ := q_table_whole (c0 := cellV ns 3) (c1 := cellV ns 4) t
    obtain ⟨a, ha, h2, eo⟩ := q_odd2_ok (c := w / 4) m1.ok
    obtain ⟨oc, th⟩ := pair_three t pl hp oh ha h2 okc
    have ep := q_paired_is (i := 0) (j := 1) t okc ha (by decide) (by decide)
    have ep : d_q_paired [tuI lo, .tup [.int 2, .int 2], cD [2, 2] (wholeV lo [2, 2] ps (zeroL lo [2, 2]) hf), .int 0, .int 1, tuI a] = .ok (cD [2, 2] (pairW lo (wholeV lo [2, 2] ps (zeroL lo [2, 2]) hf) 0 1 a)) := ep
    have et : d_q_table [tuI lo, .tup [.int 2, .int 2], .lst [.int (cellV ns 3), .int (cellV ns 4)]] = .ok (cD [2, 2] (wholeV lo [2, 2] ps (zeroL lo [2, 2]) hf)) := et
    refine ⟨lo, [2, 2], _, t, ⟨m1.prod, by decide⟩, oc, th, runD_rt rfl ?_⟩
    simp only [startD, N_q_ground, List.length_cons, List.length_nil, List.map_cons, List.map_nil, Nat.reduceAdd, Nat.reduceSub, Nat.zero_add, List.replicate, List.cons_append, List.nil_append]
    show _ = Oc.rt (.tup [tuI lo, .tup [.int 2, .int 2], _])
    generalize cD [2, 2] (pairW lo (wholeV lo [2, 2] ps (zeroL lo [2, 2]) hf) 0 1 a) = C2 at *
    generalize cD [2, 2] (wholeV lo [2, 2] ps (zeroL lo [2, 2]) hf) = C1 at *
    generalize w % 4 = z at *
    generalize w / 4 = z2 at *
    generalize tuI lo = LO at *
    generalize tuI ul = UL at *
    generalize tuI a = A at *
    simp [e_q_ground, ce0, ce1, ce2, ce3, ce4, er1, er2, m4, eq, l2, l3, et, d4, eo, ep]
  · have eq : eqD (.int (w % 4)) (.int 1) = .ok (.bl false) := by simp [h]
    have t : OkT lo ul := OkT.ofM m1 m2 (by omega) (by omega)
    obtain ⟨c, oc, th, et⟩ := q_table_plain (c0 := cellV ns 3) (c1 := cellV ns 4) t
    refine ⟨lo, ul, c, t, ⟨m1.prod, m2.prod⟩, oc, th, runD_rt rfl ?_⟩
    simp only [startD, N_q_ground, List.length_cons, List.length_nil, List.map_cons, List.map_nil, Nat.reduceAdd, Nat.reduceSub, Nat.zero_add, List.replicate, List.cons_append, List.nil_append]
    generalize cD ul c = C1 at *
    generalize w % 4 = z at *
    generalize tuI lo = LO at *
    generalize tuI ul = UL at *
    simp [e_q_ground, ce0, ce1, ce2, ce3, ce4, er1, er2, m4, eq, l2, l3, et]
def grd (lo ul : List Int) (c : List Int → List Int → List Int) : D := .tup [tuI lo, tuI ul, cD ul c]
theorem q_put14 {lo ul : List Int} {c : List Int → List Int → List Int} {p q : List Int × List Int} (t : OkT lo ul) (hc : OkC lo ul c) (hp : OkTE lo ul p) (hq : OkTE lo ul q) : d_q_put [grd lo ul c, pkD p, pkD q] = .ok (pkD (putT lo ul c p q)) := by
  have g0 : ixD (cD ul c) (.tup [tuI p.2, tuI q.2]) = .ok (tuI (c p.2 q.2)) := getC (lo := lo) c hp.2 hq.2
  have a1 := q_added_ok t.g1.ok hp.1 hq.1
  have a2 := q_added_ok t.g1.ok (put_el t.g1.ok hp.1.len hq.1.len) (hc _ _ hp.2 hq.2)
  have a3 := q_added_ok t.g2.ok hp.2 hq.2
  have i0 : ∀ A B : D, ixD (.tup [A, B]) (.int 0) = .ok A := fun _ _ => rfl
  have i1 : ∀ A B : D, ixD (.tup [A, B]) (.int 1) = .ok B := fun _ _ => rfl
  have l2 := l_two
  refine runD_rt rfl ?_
  simp only [startD, N_q_put, List.length_cons, List.length_nil, List.map_cons, List.map_nil, Nat.reduceAdd, Nat.reduceSub, Nat.zero_add, List.replicate, List.cons_append, List.nil_append]
  show e_q_put [.sh (.tup [tuI lo, tuI ul, cD ul c]), .sh (.tup [tuI p.1, tuI p.2]), .sh (.tup [tuI q.1, tuI q.2]), .un, .un, .un, .un] = Oc.rt (.tup [tuI (putV lo (putV lo p.1 q.1) (c p.2 q.2)), tuI (putV ul p.2 q.2)])
  generalize tuI (putV lo (putV lo p.1 q.1) (c p.2 q.2)) = v1 at *
  generalize tuI (putV lo p.1 q.1) = v2 at *
  generalize tuI (putV ul p.2 q.2) = v3 at *
  generalize tuI (c p.2 q.2) = v4 at *
  generalize tuI p.1 = v5 at *
  generalize tuI p.2 = v6 at *
  generalize tuI q.1 = v7 at *
  generalize tuI q.2 = v8 at *
  generalize cD ul c = C at *
  generalize tuI lo = LO at *
  generalize tuI ul = UL at *
  simp [-ixD_tup, e_q_put, i0, i1, g0, a1, a2, a3, l2]
theorem q_whole_any {d : D} (h : plainD d = true) : d_q_whole [d] = .ok (.bl (isW d)) := by
  cases d <;> first | (cases h; done) | kernel_rfl
/-- one part of a thing looked at -/
theorem has_part14 {G T : D} {rs : List Int} {d : D} {s2 s3 : Slot} (h : plainT d = true) (h7 : rs.length ≤ 1000) : q_has_l2 (.tup [tuI rs, d]) [.sh G, .sh T, s2, s3, .un, .un] = (if elB rs d = true then .nx [.sh G, .sh T, .sh (tuI rs), .sh d, .un, .un] else .rt (.bl false)) := by
  have it := is_tuple_any h isC isU
  cases d with
  | tup ds =>
    have h : ds.all plainD = true := h
    simp only at it
    have z : zip2D [.tup ds, tuI rs] = .ok (zipL2 ds (rs.map .int)) := rfl
    by_cases hl : ds.length = rs.length
    · have c : ∀ A B C : Slot, q_has_c1 [A, B, C, .sh (.tup ds), .un, .un] (zipL2 ds (rs.map .int)) = .ok (((ds.zip rs).map fun p => inB p.1 p.2).map .bl) := fun A B C => by
        have e : zipL2 ds (rs.map D.int) = (ds.zip rs).map fun p => .tup [p.1, .int p.2] := by
          unfold zipL2
          rw [List.zip_map_right, List.map_map]
          rfl
        unfold q_has_c1
        rw [e, List.map_map]
        refine lcD_gmap _ _ fun p hp => ⟨_, rfl, rfl, ?_⟩
        have w := q_whole_any (List.all_eq_true.mp h _ (List.of_mem_zip hp).1)
        obtain ⟨a, m⟩ := p
        cases a with
        | int i =>
          have w2 : d_q_whole [D.int i] = .ok (.bl true) := w
          by_cases z1 : 0 ≤ i <;> simp [wipeR, w2, inB, z1]
        | _ =>
          simp only [isW] at w
          simp [wipeR, w, inB]
      have a := allT_bls ((ds.zip rs).map fun p => inB p.1 p.2)
      have hb : elB rs (.tup ds) = ((ds.zip rs).map fun p => inB p.1 p.2).all id := by
        show (decide (ds.length = rs.length) && (ds.zip rs).all fun p => inB p.1 p.2) = _
        rw [decide_eq_true hl, Bool.true_and, List.all_map]
        rfl
      rw [hb]
      have hlim : ((ds.zip rs).map fun p => inB p.1 p.2).length ≤ lim := by simp [hl]; unfold lim; omega
      generalize ((ds.zip rs).map fun p => inB p.1 p.2) = B at *
      generalize B.all id = bb at *
      cases bb <;> simp [q_has_l2, it, hl, z, c, hlim, a]
    · have hb : elB rs (.tup ds) = false := by
        show (decide (ds.length = rs.length) && (ds.zip rs).all fun p => inB p.1 p.2) = _
        rw [decide_eq_false hl, Bool.false_and]
      have hl' : ¬ ((ds.length : Int) = rs.length) := by omega
      simp [q_has_l2, it, hl, hl', hb]
  | _ => first | (cases h; done) | (simp only at it; simp [q_has_l2, it, elB])
theorem q_has14 {lo ul : List Int} {c : List Int → List Int → List Int} {d : D} (t : OkT lo ul) (h : plainP d = true) : d_q_has [grd lo ul c, d] = .ok (.bl (elT lo ul d)) := by
  have h1 := t.g1.ok.len
  have h2 := t.g2.ok.len
  refine runD_rt rfl ?_
  simp only [startD, N_q_has, List.length_cons, List.length_nil, List.map_cons, List.map_nil, Nat.reduceAdd, Nat.reduceSub, Nat.zero_add, List.replicate, List.cons_append, List.nil_append]
  have nt : ∀ d : D, isD isC isU d (.ty "tuple") = .ok (.bl false) → e_q_has [.sh (grd lo ul c), .sh d, .un, .un, .un, .un] = .rt (.bl false) := fun d q => by
    generalize grd lo ul c = G at *
    simp [e_q_has, q]
  cases d with
  | tup ds =>
    have it : isD isC isU (.tup ds) (.ty "tuple") = .ok (.bl true) := rfl
    have nl : ds.length ≠ 2 → e_q_has [.sh (grd lo ul c), .sh (.tup ds), .un, .un, .un, .un] = .rt (.bl false) := fun q => by
      have q2 : ¬ ((ds.length : Int) = 2) := by omega
      generalize grd lo ul c = G at *
      simp [e_q_has, it, q2]
    match ds, h with
    | [], _ => exact nl (by simp)
    | [_], _ => exact nl (by simp)
    | _ :: _ :: _ :: _, _ => exact nl (by simp)
    | [a, b], h =>
      have hh : (plainT a && (plainT b && true)) = true := h
      simp only [Bool.and_true, Bool.and_eq_true] at hh
      have sl : sliceD (grd lo ul c) none (some 2) = .ok (.tup [tuI lo, tuI ul]) := by kernel_rfl
      have zp : zip2D [.tup [tuI lo, tuI ul], .tup [a, b]] = .ok [.tup [tuI lo, a], .tup [tuI ul, b]] := rfl
      have ln : lenD (.tup [a, b]) = .ok (.int 2) := rfl
      have p1 := has_part14 (G := grd lo ul c) (T := .tup [a, b]) (s2 := .un) (s3 := .un) (rs := lo) (d := a) hh.1 (by omega)
      have p2 := has_part14 (G := grd lo ul c) (T := .tup [a, b]) (s2 := .sh (tuI lo)) (s3 := .sh a) (rs := ul) (d := b) hh.2 (by omega)
      show _ = Oc.rt (.bl (elB lo a && elB ul b))
      have lp : forD q_has_l2 [.tup [tuI lo, a], .tup [tuI ul, b]] [.sh (grd lo ul c), .sh (.tup [a, b]), .un, .un, .un, .un] = if (elB lo a && elB ul b) = true then .nx [.sh (grd lo ul c), .sh (.tup [a, b]), .sh (tuI ul), .sh b, .un, .un] else .rt (.bl false) := by
        rw [forD_cons, p1]
        cases e1 : elB lo a with
        | false => rfl
        | true =>
          simp only [if_true]
          rw [forD_cons, p2]
          cases e2 : elB ul b <;> rfl
      generalize D.tup [a, b] = P at *
      generalize D.tup [tuI lo, tuI ul] = PP at *
      generalize [D.tup [tuI lo, a], D.tup [tuI ul, b]] = ZL at *
      generalize grd lo ul c = G at *
      generalize (elB lo a && elB ul b) = bb at *
      cases bb <;> simp [e_q_has, it, ln, sl, zp, lp]
  | _ => first | (exact nt _ rfl) | (cases h; done)
section
variable {α : Type} [DecidableEq α] {V : α → D} {els : List α} {put : α → α → α} {back : α → α} {zero : α}
theorem q_two14 {up : List Int} {c : List Int → List Int → α} (neV : ∀ a b, neD (V a) (V b) = .ok (.bl (!decide (a = b)))) (u : OkU up) : d_q_two [tuI up, cG V up c] = .ok (orT (break2G up c)) := by
  have m := q_members_ok u.g.ok u.g.most u.g.prod
  have l2 := l_two
  have it : itemsD (.lst ((mems up).map tuI)) = .ok ((mems up).map tuI) := rfl
  let E (s3 s4 : Slot) : Env := [.sh (tuI up), .sh (cG V up c), .sh (.lst ((mems up).map tuI)), s3, s4]
  have in1 := fun (x : List Int) (hx : x ∈ mems up) (s4 : Slot) => forD_find (f := q_two_l1) tuI (fun r => ∃ s4, r = E (.sh (tuI x)) s4) (fun y => (s2G c x y).map D.tup) (ds := mems up) (r := E (.sh (tuI x)) s4) (fun y hy r ⟨s4, e⟩ => by
      subst e
      have hx := mem_mems.mp hx
      have hy := mem_mems.mp hy
      have q1 := getG (V := V) c hx hy
      have q2 := getG (V := V) c hy hx
      have ne := neV (c x y) (c y x)
      unfold s2G
      by_cases e : c x y = c y x
      · rw [if_pos e]
        rw [decide_eq_true e] at ne
        refine ⟨fun v h => (by cases h), fun _ => ⟨E (.sh (tuI x)) (.sh (tuI y)), ?_, _, rfl⟩⟩
        simp only [E]
        generalize V (c x y) = v1 at *
        generalize V (c y x) = v2 at *
        generalize D.lst ((mems up).map tuI) = ML at *
        generalize cG V up c = C at *
        generalize tuI up = U at *
        generalize tuI x = X at *
        generalize tuI y = Y at *
        simp [q_two_l1, q1, q2, ne, l2]
      · rw [if_neg e]
        rw [decide_eq_false e] at ne
        refine ⟨fun v h => ?_, fun h => (by cases h)⟩
        cases h
        simp only [E]
        generalize V (c x y) = v1 at *
        generalize V (c y x) = v2 at *
        generalize D.lst ((mems up).map tuI) = ML at *
        generalize cG V up c = C at *
        generalize tuI up = U at *
        generalize tuI x = X at *
        generalize tuI y = Y at *
        simp [q_two_l1, q1, q2, ne, l2]) ⟨_, rfl⟩
  have in2 := forD_find (f := q_two_l2) tuI (fun r => ∃ s3 s4, r = E s3 s4) (fun x => ((mems up).findSome? fun y => s2G c x y).map D.tup) (ds := mems up) (r := E .un .un) (fun x hx r ⟨s3, s4, e⟩ => by
      subst e
      have w := in1 x hx s4
      rw [← some_tup] at w
      have st : q_two_l2 (tuI x) (E s3 s4) = forD q_two_l1 ((mems up).map tuI) (E (.sh (tuI x)) s4) := by
        simp only [E]
        generalize D.lst ((mems up).map tuI) = ML at *
        generalize (mems up).map tuI = MM at *
        generalize cG V up c = C at *
        generalize tuI up = U at *
        simp [q_two_l2, it]
      rw [st]
      exact ⟨w.1, fun h => by
        obtain ⟨r', e1, s4', e2⟩ := w.2 h
        exact ⟨r', e1, _, _, e2⟩⟩) ⟨_, _, rfl⟩
  rw [← some_tup] at in2
  have in2 : (∀ v, (break2G up c).map D.tup = some v → _) ∧ ((break2G up c).map D.tup = none → _) := in2
  obtain ⟨o1, o2⟩ := orT_map (break2G up c)
  refine runD_rt rfl ?_
  simp only [startD, N_q_two, List.length_cons, List.length_nil, List.map_cons, List.map_nil, Nat.reduceAdd, Nat.reduceSub, Nat.zero_add, List.replicate, List.cons_append, List.nil_append]
  simp only [E] at in2
  cases hb : (break2G up c).map D.tup with
  | some v =>
    have e := in2.1 v hb
    rw [o1 v hb]
    clear in1 in2 o1 o2
    generalize D.lst ((mems up).map tuI) = ML at *
    generalize (mems up).map tuI = MM at *
    generalize cG V up c = C at *
    generalize tuI up = U at *
    simp [e_q_two, m, it, e]
  | none =>
    obtain ⟨r', e, s3, s4, rfl⟩ := in2.2 hb
    rw [o2 hb]
    clear in1 in2 o1 o2
    generalize D.lst ((mems up).map tuI) = ML at *
    generalize (mems up).map tuI = MM at *
    generalize cG V up c = C at *
    generalize tuI up = U at *
    simp [e_q_two, m, it, e]
theorem break2G_none {up : List Int} {c : List Int → List Int → α} : break2G up c = none ↔ ∀ x y, OkE up x → OkE up y → c x y = c y x := by
  unfold break2G
  rw [List.findSome?_eq_none_iff]
  refine ⟨fun h x y hx hy => ?_, fun h x hx => ?_⟩
  · have h := h x (mem_mems.mpr hx)
    rw [List.findSome?_eq_none_iff] at h
    have h := h y (mem_mems.mpr hy)
    unfold s2G at h
    by_cases e : c x y = c y x
    · exact e
    · rw [if_neg e] at h; cases h
  · rw [List.findSome?_eq_none_iff]
    intro y hy
    unfold s2G
    rw [if_pos (h x y (mem_mems.mp hx) (mem_mems.mp hy))]
end
theorem q_broken14 {lo ul up : List Int} {c0 : List Int → List Int → List Int} {c : List Int → List Int → List Int × List Int} (t : OkT lo ul) (oc0 : OkC lo ul c0) (u : OkU up) (hc : OkCG (towE lo ul) up c) : d_q_broken [grd lo ul c0, tuI up, cG pkD up c] = .ok (orT (break3G (putT lo ul c0) up c)) := by
  have m := q_members_ok u.g.ok u.g.most u.g.prod
  have l2 := l_two
  have l3 : 3 ≤ lim := by decide
  have it : itemsD (.lst ((mems up).map tuI)) = .ok ((mems up).map tuI) := rfl
  have neV : ∀ a b : List Int × List Int, neD (pkD a) (pkD b) = .ok (.bl (!decide (a = b))) := fun a b => by rw [neD_ok (okQ_pkG a) (okQ_pkG b), eqQ_pkG]
  let E (s4 s5 s6 s7 : Slot) : Env := [.sh (grd lo ul c0), .sh (tuI up), .sh (cG pkD up c), .sh (.lst ((mems up).map tuI)), s4, s5, s6, s7]
  have in1 := fun (x y : List Int) (hx : x ∈ mems up) (hy : y ∈ mems up) (s6 s7 : Slot) => forD_find (f := q_broken_l1) tuI (fun r => ∃ s6 s7, r = E (.sh (tuI x)) (.sh (tuI y)) s6 s7) (fun z => (s3G (putT lo ul c0) up c x y z).map D.tup) (ds := mems up) (r := E (.sh (tuI x)) (.sh (tuI y)) s6 s7) (fun z hz r ⟨s6, s7, e⟩ => by
      subst e
      have hx := mem_mems.mp hx
      have hy := mem_mems.mp hy
      have hz := mem_mems.mp hz
      have pxy := put_el u.g.ok hx.len hy.len
      have pyz := put_el u.g.ok hy.len hz.len
      have q1 := getG (V := pkD) c hx hy
      have q2 := getG (V := pkD) c pxy hz
      have q3 := getG (V := pkD) c hy hz
      have q4 := getG (V := pkD) c hx pyz
      have a1 := q_added_ok u.g.ok hx hy
      have a2 := q_added_ok u.g.ok hy hz
      have a3 := q_put14 t oc0 (mem_towG.mp (hc x y hx hy)) (mem_towG.mp (hc _ z pxy hz))
      have a4 := q_put14 t oc0 (mem_towG.mp (hc y z hy hz)) (mem_towG.mp (hc x _ hx pyz))
      have ne := neV (putT lo ul c0 (c x y) (c (putV up x y) z)) (putT lo ul c0 (c y z) (c x (putV up y z)))
      unfold s3G
      by_cases e : putT lo ul c0 (c x y) (c (putV up x y) z) = putT lo ul c0 (c y z) (c x (putV up y z))
      · rw [if_pos e]
        rw [decide_eq_true e] at ne
        refine ⟨fun v h => (by cases h), fun _ => ⟨E (.sh (tuI x)) (.sh (tuI y)) (.sh (tuI z)) (.sh (pkD (putT lo ul c0 (c x y) (c (putV up x y) z)))), ?_, _, _, rfl⟩⟩
        simp only [E]
        generalize pkD (putT lo ul c0 (c x y) (c (putV up x y) z)) = v1 at *
        generalize pkD (putT lo ul c0 (c y z) (c x (putV up y z))) = v2 at *
        generalize pkD (c x y) = v3 at *
        generalize pkD (c (putV up x y) z) = v4 at *
        generalize pkD (c y z) = v5 at *
        generalize pkD (c x (putV up y z)) = v6 at *
        generalize D.lst ((mems up).map tuI) = ML at *
        generalize grd lo ul c0 = GR at *
        generalize cG pkD up c = C at *
        generalize tuI (putV up x y) = XY at *
        generalize tuI (putV up y z) = YZ at *
        generalize tuI up = U at *
        generalize tuI x = X at *
        generalize tuI y = Y at *
        generalize tuI z = Z at *
        simp [q_broken_l1, q1, q2, q3, q4, a1, a2, a3, a4, ne, l2]
      · rw [if_neg e]
        rw [decide_eq_false e] at ne
        refine ⟨fun v h => ?_, fun h => (by cases h)⟩
        cases h
        simp only [E]
        generalize pkD (putT lo ul c0 (c x y) (c (putV up x y) z)) = v1 at *
        generalize pkD (putT lo ul c0 (c y z) (c x (putV up y z))) = v2 at *
        generalize pkD (c x y) = v3 at *
        generalize pkD (c (putV up x y) z) = v4 at *
        generalize pkD (c y z) = v5 at *
        generalize pkD (c x (putV up y z)) = v6 at *
        generalize D.lst ((mems up).map tuI) = ML at *
        generalize grd lo ul c0 = GR at *
        generalize cG pkD up c = C at *
        generalize tuI (putV up x y) = XY at *
        generalize tuI (putV up y z) = YZ at *
        generalize tuI up = U at *
        generalize tuI x = X at *
        generalize tuI y = Y at *
        generalize tuI z = Z at *
        simp [q_broken_l1, q1, q2, q3, q4, a1, a2, a3, a4, ne, l2, l3]) ⟨_, _, rfl⟩
  have in2 := fun (x : List Int) (hx : x ∈ mems up) (s5 s6 s7 : Slot) => forD_find (f := q_broken_l2) tuI (fun r => ∃ s5 s6 s7, r = E (.sh (tuI x)) s5 s6 s7) (fun y => ((mems up).findSome? fun z => s3G (putT lo ul c0) up c x y z).map D.tup) (ds := mems up) (r := E (.sh (tuI x)) s5 s6 s7) (fun y hy r ⟨s5, s6, s7, e⟩ => by
      subst e
      have w := in1 x y hx hy s6 s7
      rw [← some_tup] at w
      have st : q_broken_l2 (tuI y) (E (.sh (tuI x)) s5 s6 s7) = forD q_broken_l1 ((mems up).map tuI) (E (.sh (tuI x)) (.sh (tuI y)) s6 s7) := by
        simp only [E]
        generalize D.lst ((mems up).map tuI) = ML at *
        generalize (mems up).map tuI = MM at *
        generalize grd lo ul c0 = GR at *
        generalize cG pkD up c = C at *
        generalize tuI up = U at *
        simp [q_broken_l2, it]
      rw [st]
      exact ⟨w.1, fun h => by
        obtain ⟨r', e1, s6', s7', e2⟩ := w.2 h
        exact ⟨r', e1, _, _, _, e2⟩⟩) ⟨_, _, _, rfl⟩
  have in3 := forD_find (f := q_broken_l3) tuI (fun r => ∃ s4 s5 s6 s7, r = E s4 s5 s6 s7) (fun x => ((mems up).findSome? fun y => (mems up).findSome? fun z => s3G (putT lo ul c0) up c x y z).map D.tup) (ds := mems up) (r := E .un .un .un .un) (fun x hx r ⟨s4, s5, s6, s7, e⟩ => by
      subst e
      have w := in2 x hx s5 s6 s7
      rw [← some_tup] at w
      have st : q_broken_l3 (tuI x) (E s4 s5 s6 s7) = forD q_broken_l2 ((mems up).map tuI) (E (.sh (tuI x)) s5 s6 s7) := by
        simp only [E]
        generalize D.lst ((mems up).map tuI) = ML at *
        generalize (mems up).map tuI = MM at *
        generalize grd lo ul c0 = GR at *
        generalize cG pkD up c = C at *
        generalize tuI up = U at *
        simp [q_broken_l3, it]
      rw [st]
      exact ⟨w.1, fun h => by
        obtain ⟨r', e1, s5', s6', s7', e2⟩ := w.2 h
        exact ⟨r', e1, _, _, _, _, e2⟩⟩) ⟨_, _, _, _, rfl⟩
  rw [← some_tup] at in3
  have in3 : (∀ v, (break3G (putT lo ul c0) up c).map D.tup = some v → _) ∧ ((break3G (putT lo ul c0) up c).map D.tup = none → _) := in3
  obtain ⟨o1, o2⟩ := orT_map (break3G (putT lo ul c0) up c)
  refine runD_rt rfl ?_
  simp only [startD, N_q_broken, List.length_cons, List.length_nil, List.map_cons, List.map_nil, Nat.reduceAdd, Nat.reduceSub, Nat.zero_add, List.replicate, List.cons_append, List.nil_append]
  simp only [E] at in3
  cases hb : (break3G (putT lo ul c0) up c).map D.tup with
  | some v =>
    have e := in3.1 v hb
    rw [o1 v hb]
    clear in1 in2 in3 o1 o2
    generalize D.lst ((mems up).map tuI) = ML at *
    generalize (mems up).map tuI = MM at *
    generalize grd lo ul c0 = GR at *
    generalize cG pkD up c = C at *
    generalize tuI up = U at *
    simp [e_q_broken, m, it, e]
  | none =>
    obtain ⟨r', e, s4, s5, s6, s7, rfl⟩ := in3.2 hb
    rw [o2 hb]
    clear in1 in2 in3 o1 o2
    generalize D.lst ((mems up).map tuI) = ML at *
    generalize (mems up).map tuI = MM at *
    generalize grd lo ul c0 = GR at *
    generalize cG pkD up c = C at *
    generalize tuI up = U at *
    simp [e_q_broken, m, it, e]
def envX (G : D) (up : List Int) (cd : D) (K : List ((List Int × List Int) × D)) (s5 s6 : Slot) : Env := [.ow (.parts [.sh, .sh, .flat]) (.obj 2 [G, gR up, dicA pkD (fun d => d) K]), .sh G, .sh (gR up), .sh cd, .sh (.lst ((mems up).map tuI)), s5, s6]
def valD (up : List Int) (v : List Int → List Int → D) : D := dicF pkD (fun d : D => d) (prs up) fun p => v p.1 p.2
section
variable {G : D} {up : List Int} {v : List Int → List Int → D} {hb : List Int → List Int → Bool} {f : List D → Res D}
theorem valD_get {x y : List Int} (hx : OkE up x) (hy : OkE up y) : ixD (valD up v) (.tup [tuI x, tuI y]) = .ok (v x y) ∧ notInD (.tup [tuI x, tuI y]) (valD up v) = .ok (.bl false) := by
  have hm : (x, y) ∈ prs up := mem_prs.mpr ⟨mem_mems.mpr hx, mem_mems.mpr hy⟩
  refine ⟨ixD_A (V := fun d : D => d) keyP ((prs up).map fun p => (p, v p.1 p.2)) (x, y) (lookA_map (fun p : List Int × List Int => v p.1 p.2) hm), ?_⟩
  have := notInD_A (V := fun d : D => d) keyP ((prs up).map fun p => (p, v p.1 p.2)) (x, y)
  show notInD (pkD (x, y)) (dicA pkD (fun d : D => d) ((prs up).map fun p => (p, v p.1 p.2))) = _
  simpa [hasA_map, hm] using this
theorem stepX14 {x y : List Int} {K : List ((List Int × List Int) × D)} {s6 : Slot} (f1 : mthD mt_has_T G = .ok f) (f2 : ∀ x y, OkE up x → OkE up y → f [v x y] = .ok (.bl (hb x y))) (hx : OkE up x) (hy : OkE up y) (hK : K.length ≤ 200) :
    (hb x y = false → ∃ r, Table_init_l1 (tuI y) (envX G up (valD up v) K (.sh (tuI x)) s6) = .er (.exc 23 [tuI y, tuI x]) r) ∧
    (hb x y = true → ∃ K', K'.length ≤ K.length + 1 ∧ Table_init_l1 (tuI y) (envX G up (valD up v) K (.sh (tuI x)) s6) = .nx (envX G up (valD up v) K' (.sh (tuI x)) (.sh (tuI y)))) := by
  have l2 := l_two
  have cf : 2 = (cflds 23).length := by kernel_rfl
  obtain ⟨gi, ni⟩ := valD_get (v := v) hx hy
  have hs := f2 x y hx hy
  refine ⟨fun h => ?_, fun h => ⟨setA K (x, y) (v x y), ?_, ?_⟩⟩
  · rw [h] at hs
    refine ⟨envX G up (valD up v) K (.sh (tuI x)) (.sh (tuI y)), ?_⟩
    unfold envX
    generalize valD up v = AM at *
    generalize dicA pkD (fun d => d) K = AK at *
    generalize D.lst ((mems up).map tuI) = ML at *
    generalize v x y = w at *
    generalize tuI x = X at *
    generalize tuI y = Y at *
    simp [Table_init_l1, l2, ni, gi, f1, hs, raiseD, ← cf]
  · unfold setA
    split
    · rw [List.length_map]; omega
    · rw [List.length_append]; simp
  · rw [h] at hs
    have sk := setK_A' (V := fun d : D => d) keyP K (x, y) (v x y)
    have kt := keyP.t (x, y)
    have hl : K.length < lim := by unfold lim; omega
    show _ = Oc.nx [.ow (.parts [.sh, .sh, .flat]) (.obj 2 [G, gR up, dicA pkD (fun d => d) (setA K (x, y) (v x y))]), _, _, _, _, _, _]
    rw [← sk]
    unfold envX
    generalize valD up v = AM at *
    generalize D.lst ((mems up).map tuI) = ML at *
    generalize v x y = w at *
    simp [Table_init_l1, l2, ni, gi, f1, hs, setFI, Shape.kid, Shape.isFlat, dicA, kt, hl]
theorem rowX14 {x : List Int} (f1 : mthD mt_has_T G = .ok f) (f2 : ∀ x y, OkE up x → OkE up y → f [v x y] = .ok (.bl (hb x y))) (hx : OkE up x) : ∀ {ys : List (List Int)} {K : List ((List Int × List Int) × D)} {s6 : Slot}, (∀ y ∈ ys, OkE up y) → K.length + ys.length ≤ 200 →
    (∀ y, ys.find? (fun y => !hb x y) = some y → ∃ r, forD Table_init_l1 (ys.map tuI) (envX G up (valD up v) K (.sh (tuI x)) s6) = .er (.exc 23 [tuI y, tuI x]) r) ∧
    (ys.find? (fun y => !hb x y) = none → ∃ K' s6', K'.length ≤ K.length + ys.length ∧ forD Table_init_l1 (ys.map tuI) (envX G up (valD up v) K (.sh (tuI x)) s6) = .nx (envX G up (valD up v) K' (.sh (tuI x)) s6'))
  | [], K, s6, _, _ => ⟨fun y h => (by cases h), fun _ => ⟨K, s6, by simp, rfl⟩⟩
  | y :: ys, K, s6, hy, hl => by
    rw [List.length_cons] at hl
    obtain ⟨h1, h2⟩ := stepX14 (K := K) (s6 := s6) f1 f2 hx (hy y List.mem_cons_self) (by omega)
    rw [List.map_cons, forD_cons, List.find?_cons]
    cases hv : hb x y with
    | false =>
      obtain ⟨r, e⟩ := h1 hv
      rw [e]
      exact ⟨fun z h => (by cases h; exact ⟨r, rfl⟩), fun h => (by cases h)⟩
    | true =>
      obtain ⟨K', hk, e⟩ := h2 hv
      rw [e]
      obtain ⟨g1, g2⟩ := rowX14 (x := x) f1 f2 hx (ys := ys) (K := K') (s6 := .sh (tuI y)) (fun z hz => hy z (List.mem_cons_of_mem _ hz)) (by omega)
      exact ⟨g1, fun h => by
        obtain ⟨K'', s, hk2, e2⟩ := g2 h
        exact ⟨K'', s, by rw [List.length_cons]; omega, e2⟩⟩
def firstX (up : List Int) (hb : List Int → List Int → Bool) (xs : List (List Int)) : Option (List Int × List Int) := xs.findSome? fun x => ((mems up).find? fun y => !hb x y).map fun y => (x, y)
theorem rowsX14 (f1 : mthD mt_has_T G = .ok f) (f2 : ∀ x y, OkE up x → OkE up y → f [v x y] = .ok (.bl (hb x y))) (l9 : (mems up).length ≤ 9) : ∀ {xs : List (List Int)} {K : List ((List Int × List Int) × D)} {s5 s6 : Slot} {p : List Int × List Int}, (∀ x ∈ xs, OkE up x) → K.length + xs.length * 9 ≤ 190 → firstX up hb xs = some p →
    ∃ r, forD Table_init_l2 (xs.map tuI) (envX G up (valD up v) K s5 s6) = .er (.exc 23 [tuI p.2, tuI p.1]) r
  | [], K, s5, s6, p, _, _, h => by cases h
  | x :: xs, K, s5, s6, p, hx, hl, h => by
    rw [List.length_cons, Nat.succ_mul] at hl
    obtain ⟨h1, h2⟩ := rowX14 (x := x) f1 f2 (hx x List.mem_cons_self) (ys := mems up) (K := K) (s6 := s6) (fun y hy => mem_mems.mp hy) (by omega)
    have it : itemsD (.lst ((mems up).map tuI)) = .ok ((mems up).map tuI) := rfl
    have st : Table_init_l2 (tuI x) (envX G up (valD up v) K s5 s6) = forD Table_init_l1 ((mems up).map tuI) (envX G up (valD up v) K (.sh (tuI x)) s6) := by
      unfold envX
      generalize valD up v = AM at *
      generalize dicA pkD (fun d => d) K = AK at *
      generalize hML : D.lst ((mems up).map tuI) = ML at *
      generalize (mems up).map tuI = MM at *
      generalize tuI x = X at *
      simp [Table_init_l2, it]
    rw [List.map_cons, forD_cons, st]
    unfold firstX at h
    rw [List.findSome?_cons] at h
    cases hf : (mems up).find? fun y => !hb x y with
    | some y =>
      rw [hf] at h
      cases h
      obtain ⟨r, e⟩ := h1 y hf
      rw [e]
      exact ⟨r, rfl⟩
    | none =>
      rw [hf] at h
      obtain ⟨K', s6', hk, e⟩ := h2 hf
      rw [e]
      exact rowsX14 f1 f2 l9 (xs := xs) (K := K') (fun z hz => hx z (List.mem_cons_of_mem _ hz)) (by omega) h
theorem tableX14 {n : Int} {p : List Int × List Int} (hs : SizeF n G) (h16 : n ≤ 16) (he : EvenF G) (u : OkU up) (f1 : mthD mt_has_T G = .ok f) (f2 : ∀ x y, OkE up x → OkE up y → f [v x y] = .ok (.bl (hb x y))) (h : firstX up hb (mems up) = some p) :
    d_Table_init [G, gR up, valD up v] = .er (.exc 23 [tuI p.2, tuI p.1]) := by
  have g := lookG_ok hs h16 he u
  have m := members_ok u.g.ok u.g.most u.g.prod
  have mm : mthD mt_members_T (gR up) = .ok (fun ds => d_Rounds_members (gR up :: ds)) := rfl
  have l9 := u.mems_le
  obtain ⟨r, e⟩ := rowsX14 (G := G) (v := v) f1 f2 l9 (xs := mems up) (K := []) (s5 := .un) (s6 := .un) (fun x hx => mem_mems.mp hx) (by simp; omega) h
  have st : startI N_Table_init.length 2 [G, gR up, valD up v] = [.ow .flat (.obj 2 []), .sh G, .sh (gR up), .sh (valD up v), .un, .un, .un] := rfl
  refine runI_er (r := r) rfl ?_
  rw [st]
  generalize valD up v = AM at *
  have f0 : setF 0 2 "lower" .sh G [.ow .flat (.obj 2 []), .sh G, .sh (gR up), .sh AM, .un, .un, .un] = .nx [.ow .flat (.obj 2 [G]), .sh G, .sh (gR up), .sh AM, .un, .un, .un] := by kernel_rfl
  have f1 : setF 0 2 "upper" .sh (gR up) [.ow .flat (.obj 2 [G]), .sh G, .sh (gR up), .sh AM, .un, .un, .un] = .nx [.ow .flat (.obj 2 [G, gR up]), .sh G, .sh (gR up), .sh AM, .un, .un, .un] := by kernel_rfl
  have f2 : setF 0 2 "kept" .flat (.dic [] []) [.ow .flat (.obj 2 [G, gR up]), .sh G, .sh (gR up), .sh AM, .un, .un, .un] = .nx [.ow (.parts [.sh, .sh, .flat]) (.obj 2 [G, gR up, .dic [] []]), .sh G, .sh (gR up), .sh AM, .un, .un, .un] := by kernel_rfl
  have e : forD Table_init_l2 ((mems up).map tuI) [.ow (.parts [.sh, .sh, .flat]) (.obj 2 [G, gR up, .dic [] []]), .sh G, .sh (gR up), .sh AM, .sh (.lst ((mems up).map tuI)), .un, .un] = .er (.exc 23 [tuI p.2, tuI p.1]) r := e
  simp only [e_Table_init, getS_succ, getS0, ok_bind, g, lift_ok, nx_seq, f0, f1, f2, mm, m, List.set_cons_succ, List.set_cons_zero, itemsD_lst]
  exact e
end
section
variable {L U CD GU : D}
theorem asked14_ok {T : D} (i : d_Rounds_init [U] = .ok GU) (h : d_Table_init [L, GU, CD] = .ok T) : d_q_asked [L, U, CD] = .ok T := by
  refine runD_rt rfl ?_
  simp only [startD, N_q_asked, List.length_cons, List.length_nil, List.map_cons, List.map_nil, Nat.reduceAdd, Nat.reduceSub, Nat.zero_add, List.replicate, List.cons_append, List.nil_append]
  simp [e_q_asked, tryD, i, h]
theorem asked14_lower (i : d_Rounds_init [U] = .ok GU) (h : d_Table_init [L, GU, CD] = .er (.exc 13 [])) : d_q_asked [L, U, CD] = .ok (.str "lower") := by
  have c1 : ctC.contains 13 = true := by decide
  have u1 : ctU.contains 13 = true := by decide
  have o1 : overC 13 13 = true := by decide
  simp only [List.contains_eq_mem, decide_eq_true_iff] at c1 u1
  refine runD_rt rfl ?_
  simp only [startD, N_q_asked, List.length_cons, List.length_nil, List.map_cons, List.map_nil, Nat.reduceAdd, Nat.reduceSub, Nat.zero_add, List.replicate, List.cons_append, List.nil_append]
  simp [e_q_asked, tryD, catchD, bindI, closeI, clrI, i, h, c1, u1, o1]
theorem asked14_carry {X Y : D} (i : d_Rounds_init [U] = .ok GU) (h : d_Table_init [L, GU, CD] = .er (.exc 23 [Y, X])) : d_q_asked [L, U, CD] = .ok (.tup [X, Y]) := by
  have l2 := l_two
  have c1 : ctC.contains 23 = true := by decide
  have u1 : ctU.contains 13 = true := by decide
  have u3 : ctU.contains 23 = true := by decide
  have o1 : overC 23 13 = false := by decide
  have o3 : overC 23 23 = true := by decide
  have f1 : fldE (plOf [23] "x") (.exc 23 [Y, X]) = .ok X := by kernel_rfl
  have f2 : fldE (plOf [23] "y") (.exc 23 [Y, X]) = .ok Y := by kernel_rfl
  simp only [List.contains_eq_mem, decide_eq_true_iff] at c1 u1 u3
  refine runD_rt rfl ?_
  simp only [startD, N_q_asked, List.length_cons, List.length_nil, List.map_cons, List.map_nil, Nat.reduceAdd, Nat.reduceSub, Nat.zero_add, List.replicate, List.cons_append, List.nil_append]
  simp [e_q_asked, tryD, catchD, bindI, closeI, clrI, i, h, c1, u1, u3, o1, o3, f1, f2, l2]
end
theorem uneven14 {G GU cd : D} {n : Int} (hs : SizeF n G) (h16 : n ≤ 16) (he : ∃ f, mthD mt_is_even_T G = .ok f ∧ f [] = .ok (.bl false)) : d_Table_init [G, GU, cd] = .er (.exc 13 []) := by
  obtain ⟨fs, s1, s2⟩ := hs
  obtain ⟨fe, e1, e2⟩ := he
  have g1 : gtD (.int n) (.int 16) = .ok (.bl false) := by
    have : decide (n > 16) = false := decide_eq_false (by omega)
    show Res.ok (D.bl (decide (n > 16))) = _
    rw [this]
  have lg : d_look_at_groups [G, GU] = .er (.exc 13 []) := by
    refine runD_er (r := [.sh G, .sh GU]) rfl ?_
    simp only [startD, N_look_at_groups, List.length_cons, List.length_nil, List.map_cons, List.map_nil, Nat.reduceAdd, Nat.reduceSub, Nat.zero_add, List.replicate, List.cons_append, List.nil_append]
    simp [-gtD_int, e_look_at_groups, s1, s2, e1, e2, g1]
  have st : startI N_Table_init.length 2 [G, GU, cd] = [.ow .flat (.obj 2 []), .sh G, .sh GU, .sh cd, .un, .un, .un] := rfl
  refine runI_er (r := [.ow .flat (.obj 2 []), .sh G, .sh GU, .sh cd, .un, .un, .un]) rfl ?_
  rw [st]
  simp [e_Table_init, lg]
theorem right14_three {T : D} {v : List D} {n : Int} (h : d_Tower_init [T] = .er (.exc 24 [.tup v])) (o : okQ 64 (.tup v) = true) : d_q_tower_right [T, .tup v, .int n] = .ok (.bl true) := by
  have c1 : ctC.contains 24 = true := by decide
  have u1 : ctU.contains 24 = true := by decide
  have o1 : overC 24 24 = true := by decide
  have f1 : fldE (plOf [24] "three") (.exc 24 [.tup v]) = .ok (.tup v) := by kernel_rfl
  have nn : notN (.tup v) .non = .ok (.bl true) := rfl
  have n0 : isN .non .non = .ok (.bl true) := rfl
  have rf : eqD (.tup v) (.tup v) = .ok (.bl true) := eqD_refl o
  simp only [List.contains_eq_mem, decide_eq_true_iff] at c1 u1
  refine runD_rt rfl ?_
  simp only [startD, N_q_tower_right, List.length_cons, List.length_nil, List.map_cons, List.map_nil, Nat.reduceAdd, Nat.reduceSub, Nat.zero_add, List.replicate, List.cons_append, List.nil_append]
  generalize D.tup v = W at *
  simp [e_q_tower_right, tryD, catchD, bindI, closeI, clrI, h, c1, u1, o1, f1, nn, n0, rf]
theorem size2_ok {α : Type} [DecidableEq α] {V : α → D} {els : List α} {put : α → α → α} {back : α → α} {zero : α} {G : D} {up : List Int} {c : List Int → List Int → α} (L : LowG V els put back zero) (u : OkU up) (fm : MemF V els G) : d_Group_size_1_2 [towG V G up c] = .ok (.int ((allG els up).length : Nat)) := by
  have m := members2_ok (c := c) L u fm
  have mm : mthD mt_members_T_T (towG V G up c) = .ok (fun ds => d_Tower_members_2 (towG V G up c :: ds)) := rfl
  refine runD_rt rfl ?_
  simp only [startD, N_Group_size, List.length_cons, List.length_nil, List.map_cons, List.map_nil, Nat.reduceAdd, Nat.reduceSub, Nat.zero_add, List.replicate, List.cons_append, List.nil_append]
  have ln : lenD (.lst ((allG els up).map (paG V))) = .ok (.int ((allG els up).length : Nat)) := by simp [lenD]
  generalize D.lst ((allG els up).map (paG V)) = AL at *
  generalize towG V G up c = TW at *
  simp [-lenD, e_Group_size_1_2, mm, m, ln]
theorem right14_none {α : Type} [DecidableEq α] {V : α → D} {els : List α} {put : α → α → α} {back : α → α} {zero : α} {G T : D} {up : List Int} {c : List Int → List Int → α} (L : LowG V els put back zero) (u : OkU up) (fm : MemF V els G) (h : d_Tower_init [T] = .ok (towG V G up c)) : d_q_tower_right [T, .non, .int ((allG els up).length : Nat)] = .ok (.bl true) := by
  have sz := size2_ok (c := c) L u fm
  have ms : mthD mt_size_T_T (towG V G up c) = .ok (fun ds => d_Group_size_1_2 (towG V G up c :: ds)) := rfl
  have m := members2_ok (c := c) L u fm
  have mm : mthD mt_members_T_T (towG V G up c) = .ok (fun ds => d_Tower_members_2 (towG V G up c :: ds)) := rfl
  have ln : lenD (.lst ((allG els up).map (paG V))) = .ok (.int ((allG els up).length : Nat)) := by simp [lenD]
  have nn : notN .non .non = .ok (.bl false) := rfl
  have n0 : isN .non .non = .ok (.bl true) := rfl
  have rf : eqD (.int ((allG els up).length : Nat)) (.int ((allG els up).length : Nat)) = .ok (.bl true) := eqD_refl rfl
  refine runD_rt rfl ?_
  simp only [startD, N_q_tower_right, List.length_cons, List.length_nil, List.map_cons, List.map_nil, Nat.reduceAdd, Nat.reduceSub, Nat.zero_add, List.replicate, List.cons_append, List.nil_append]
  generalize D.lst ((allG els up).map (paG V)) = AL at *
  generalize (((allG els up).length : Nat) : Int) = k at *
  generalize towG V G up c = TW at *
  simp [-lenD, e_q_tower_right, tryD, h, nn, n0, ms, sz, mm, m, ln, rf]
/-- what a carry may be here -/
structure TH14 (d : D) : Prop where
  pl : plainP d = true
  ok : okQ 64 d = true
theorem th_pk (p : List Int × List Int) : TH14 (pkD p) := ⟨by
  show (plainT (tuI p.1) && (plainT (tuI p.2) && true)) = true
  have h : ∀ x : List Int, plainT (tuI x) = true := fun x => by
    show (x.map D.int).all plainD = true
    rw [List.all_map]
    exact List.all_eq_true.mpr fun _ _ => rfl
  rw [h, h]
  rfl, okQ_pkG p⟩
def E14 (ns : List Int) (GRD TW U ML : D) (s5 s6 s7 s8 s9 s10 s11 s12 s13 s14 s15 s16 : Slot) : Env := [.sh (.scr ns), .sh GRD, .sh TW, .sh U, .sh ML, s5, s6, s7, s8, s9, s10, s11, s12, s13, s14, s15, s16]
/-- all elements of the lower tower -/
theorem things14 {ns lo ul : List Int} {c0 : List Int → List Int → List Int} {TW U ML : D} (t : OkT lo ul) (l16 : (towE lo ul).length ≤ 16) : ∃ s6 s7, law_s6 (E14 ns (grd lo ul c0) TW U ML (.ow .flat (.lst [])) .un .un .un .un .un .un .un .un .un .un .un) =
    .nx (E14 ns (grd lo ul c0) TW U ML (.ow .flat (.lst ((towE lo ul).map pkD))) s6 s7 .un .un .un .un .un .un .un .un .un) := by
  have m1 := q_members_ok t.g1.ok t.g1.most t.g1.prod
  have m2 := q_members_ok t.g2.ok t.g2.most t.g2.prod
  have l2 := l_two
  have i0 : ixD (grd lo ul c0) (.int 0) = .ok (tuI lo) := rfl
  have i1 : ixD (grd lo ul c0) (.int 1) = .ok (tuI ul) := rfl
  have it1 : itemsD (.lst ((mems lo).map tuI)) = .ok ((mems lo).map tuI) := rfl
  have it2 : itemsD (.lst ((mems ul).map tuI)) = .ok ((mems ul).map tuI) := rfl
  let E (M : List (List Int × List Int)) (s6 s7 : Slot) : Env := E14 ns (grd lo ul c0) TW U ML (.ow .flat (.lst (M.map pkD))) s6 s7 .un .un .un .un .un .un .un .un .un
  have inner : ∀ (M : List (List Int × List Int)) (a : List Int) (s7 : Slot), M.length + (mems ul).length ≤ 100 → ∃ s7', forD law_l1 ((mems ul).map tuI) (E M (.sh (tuI a)) s7) = .nx (E (M ++ (mems ul).map fun x => (a, x)) (.sh (tuI a)) s7') := fun M a s7 hl => by
    obtain ⟨r', e, s7', rfl⟩ := forD_row (pre0 := mems ul) (f := law_l1) tuI (fun done r => ∃ s7, r = E (M ++ done.map fun x => (a, x)) (.sh (tuI a)) s7) (ds := mems ul) (pre := []) (r := E M (.sh (tuI a)) s7) (fun done x hd r ⟨s7, e⟩ => by
      subst e
      obtain ⟨rest, hr⟩ := hd
      have dl : done.length < (mems ul).length := by
        have := congrArg List.length hr
        simp at this
        omega
      have en : (M ++ (done ++ [x]).map fun x => (a, x)).map pkD = (M ++ done.map fun x => (a, x)).map pkD ++ [.tup [tuI a, tuI x]] := by simp
      have hlim : ((M ++ done.map fun x => (a, x)).map pkD).length < lim := by simp; unfold lim; omega
      refine ⟨E (M ++ (done ++ [x]).map fun x => (a, x)) (.sh (tuI a)) (.sh (tuI x)), ?_, _, rfl⟩
      simp only [E]
      rw [en]
      unfold E14
      generalize (M ++ done.map fun x => (a, x)).map pkD = ML2 at *
      generalize grd lo ul c0 = G at *
      generalize tuI a = A at *
      generalize tuI x = X at *
      simp [law_l1, law_s6_1_1, appG, ownL, hlim, l2]) (by simp) ⟨s7, by simp⟩
    exact ⟨s7', by simpa using e⟩
  obtain ⟨r', lp, s6, s7, e⟩ := forD_row (pre0 := mems lo) (f := law_l2) tuI (fun done r => ∃ s6 s7, r = E (done.flatMap fun a => (mems ul).map fun x => (a, x)) s6 s7) (ds := mems lo) (pre := []) (r := E [] .un .un) (fun done a hd r ⟨s6, s7, e⟩ => by
    subst e
    obtain ⟨rest, hr⟩ := hd
    have en : ((done ++ [a]).flatMap fun a => (mems ul).map fun x => (a, x)) = (done.flatMap fun a => (mems ul).map fun x => (a, x)) ++ (mems ul).map fun x => (a, x) := by
      rw [List.flatMap_append]
      simp
    have h1 : ((done ++ [a]).flatMap fun a => (mems ul).map fun x => (a, x)).length ≤ (towE lo ul).length := by
      unfold towE
      rw [← hr, List.flatMap_append (xs := done ++ [a])]
      simp
    obtain ⟨s7', q⟩ := inner (done.flatMap fun a => (mems ul).map fun x => (a, x)) a s7 (by
      rw [en] at h1
      simp only [List.length_append, List.length_map] at h1
      omega)
    refine ⟨E ((done ++ [a]).flatMap fun a => (mems ul).map fun x => (a, x)) (.sh (tuI a)) s7', ?_, _, _, rfl⟩
    rw [en, ← q]
    simp only [E]
    unfold E14
    generalize (done.flatMap fun a => (mems ul).map fun x => (a, x)).map pkD = ML2 at *
    generalize hML : D.lst ((mems ul).map tuI) = MU at *
    generalize (mems ul).map tuI = MM at *
    generalize grd lo ul c0 = G at *
    generalize tuI a = A at *
    generalize tuI ul = UL at *
    simp [law_l2, law_s6_1, i1, m2, it2]) (by simp) ⟨.un, .un, rfl⟩
  subst e
  rw [List.nil_append] at lp
  refine ⟨s6, s7, ?_⟩
  have lp : forD law_l2 ((mems lo).map tuI) (E14 ns (grd lo ul c0) TW U ML (.ow .flat (.lst [])) .un .un .un .un .un .un .un .un .un .un .un) = .nx (E14 ns (grd lo ul c0) TW U ML (.ow .flat (.lst ((towE lo ul).map pkD))) s6 s7 .un .un .un .un .un .un .un .un .un) := lp
  unfold E14 at *
  generalize D.lst ((towE lo ul).map pkD) = TL at *
  generalize D.lst ((mems lo).map tuI) = MLo at *
  generalize (mems lo).map tuI = MM at *
  generalize grd lo ul c0 = G at *
  generalize tuI lo = LO at *
  simp [law_s6, i0, m1, it1, lp]
/-- a dict of all pairs, row by row, the rows as they are walked -/
theorem fill2A {β γ : Type} {N : Nat} {up : List Int} {Q : List Int × List Int → β → Prop} {outer inner : D → Env → Oc} (A : γ → D) (kx : γ → List Int) (P : List ((List Int × List Int) × β) → Env → Prop) (P' : List ((List Int × List Int) × β) → γ → Env → Prop) : ∀ {X : List γ} {L : List ((List Int × List Int) × β)} {r : Env}, L.length + X.length * (mems up).length ≤ N → (X.map kx).Nodup → (∀ a ∈ X, ∀ y ∈ mems up, (kx a, y) ∉ L.map (·.1)) →
    (∀ L, L.length < N → ∀ a ∈ X, ∀ y ∈ mems up, (kx a, y) ∉ L.map (·.1) → ∀ r, P' L a r → ∃ v r', Q (kx a, y) v ∧ inner (tuI y) r = .nx r' ∧ P' (setA L (kx a, y) v) a r') →
    (∀ L, ∀ a ∈ X, ∀ r, P L r → ∃ r1, P' L a r1 ∧ ∀ L' r2, forD inner ((mems up).map tuI) r1 = .nx r2 → P' L' a r2 → ∃ r3, outer (A a) r = .nx r3 ∧ P L' r3) → P L r →
    ∃ L' r', forD outer (X.map A) r = .nx r' ∧ P (L ++ L') r' ∧ L'.map (·.1) = X.flatMap (fun a => (mems up).map fun y => (kx a, y)) ∧ ∀ p ∈ L', Q p.1 p.2
  | [], L, r, _, _, _, _, _, hp => ⟨[], r, rfl, by simpa using hp, rfl, fun _ h => nomatch h⟩
  | a :: X, L, r, hl, hn, hf, hi, ho, hp => by
    rw [List.length_cons, Nat.succ_mul] at hl
    rw [List.map_cons, List.nodup_cons] at hn
    obtain ⟨r1, p1, q⟩ := ho L a List.mem_cons_self r hp
    obtain ⟨L1, r2, e1, p2, k1, v1⟩ := fillG (Q := Q) (f := inner) (N := N) tuI (fun y : List Int => (kx a, y)) (fun L r => P' L a r) (X := mems up) (L := L) (r := r1) (by omega) (by
        rw [List.nodup_iff_pairwise_ne, List.pairwise_map]
        exact (List.nodup_iff_pairwise_ne.mp (mems_nodup up)).imp fun hne e => hne (congrArg (·.2) e)) (hf a List.mem_cons_self) (fun L hL y hy hm r hr => hi L hL a List.mem_cons_self y hy hm r hr) p1
    obtain ⟨r3, e3, p3⟩ := q _ r2 e1 p2
    obtain ⟨L2, r4, e4, p4, k2, v2⟩ := fill2A A kx P P' (X := X) (L := L ++ L1) (r := r3) (by have := congrArg List.length k1; rw [List.length_map, List.length_map] at this; rw [List.length_append]; omega) hn.2 (fun b hb y hy hm => by
      rw [List.map_append, List.mem_append] at hm
      rcases hm with m | m
      · exact hf b (List.mem_cons_of_mem _ hb) y hy m
      · rw [k1] at m
        obtain ⟨z, _, e⟩ := List.mem_map.mp m
        injection e with e _
        exact hn.1 (e ▸ List.mem_map.mpr ⟨b, hb, rfl⟩)) (fun L hL b hb => hi L hL b (List.mem_cons_of_mem _ hb)) (fun L b hb => ho L b (List.mem_cons_of_mem _ hb)) p3
    refine ⟨L1 ++ L2, r4, ?_, by simpa using p4, by simp [k1, k2], fun p hq => ?_⟩
    · rw [List.map_cons, forD_cons, e3]
      exact e4
    · rcases List.mem_append.mp hq with z | z
      · exact v1 p z
      · exact v2 p z
theorem draw14 {ns lo ul up : List Int} {G TW U : D} {s6 s7 : Slot} (u : OkU up) (l16 : (towE lo ul).length ≤ 16) (hz : zeroT lo ul (fun _ _ => zeroV lo) ∈ towE lo ul) :
    ∃ (c : List Int → List Int → List Int × List Int) (s7' s9 s10 s11 : Slot), OkCG (towE lo ul) up c ∧ law_s8 (E14 ns G TW U (.lst ((mems up).map tuI)) (.ow .flat (.lst ((towE lo ul).map pkD))) s6 s7 (.ow .flat (.dic [] [])) .un .un .un .un .un .un .un .un) =
      .nx (E14 ns G TW U (.lst ((mems up).map tuI)) (.ow .flat (.lst ((towE lo ul).map pkD))) s6 s7' (.ow .flat (cG pkD up c)) s9 s10 s11 .un .un .un .un .un) := by
  have ce := fun (k : Int) (h0 : 0 ≤ k) (h : k ≤ 100) => cell_ok ns k h0 (by omega)
  have ce10 := ce 10 (by omega) (by omega)
  generalize cellV ns 10 = w at *
  have m3 := modD_ok (i := w) (j := 3) (by omega)
  have q1 := Int.emod_nonneg w (show (3 : Int) ≠ 0 by omega)
  have q2 := Int.emod_lt_of_pos w (show (0 : Int) < 3 by omega)
  generalize w % 3 = z at *
  have l9 := u.mems_le
  have l2 := l_two
  have lp0 : 0 < (towE lo ul).length := List.length_pos_of_mem hz
  have le : lenD (.lst ((towE lo ul).map pkD)) = .ok (.int (towE lo ul).length) := by simp [lenD]
  have it : itemsD (.lst ((mems up).map tuI)) = .ok ((mems up).map tuI) := rfl
  have gt : gtD (.int z) (.int 0) = .ok (.bl (decide (z > 0))) := rfl
  have pk : ∀ c : Int, ∃ p ∈ towE lo ul, ixD (.lst ((towE lo ul).map pkD)) (.int (c % ((towE lo ul).length : Nat))) = .ok (pkD p) := fun c => by
    obtain ⟨d, hd, e⟩ := ixD_pick (xs := (towE lo ul).map pkD) c (((towE lo ul).length : Nat) : Int) (by simp) (by omega)
    obtain ⟨a, ha, rfl⟩ := List.mem_map.mp hd
    exact ⟨a, ha, e⟩
  obtain ⟨M, r', lp, ⟨s7', s9, s10, s11, e⟩, hk, hv⟩ := fill2A (N := 81) (up := up) (Q := fun (_ : List Int × List Int) (v : List Int × List Int) => v ∈ towE lo ul) (outer := law_l4) (inner := law_l3) (fun p : List Int × Nat => .tup [.int (p.2 : Nat), tuI p.1]) (·.1)
    (fun M r => ∃ s7 s9 s10 s11, r = E14 ns G TW U (.lst ((mems up).map tuI)) (.ow .flat (.lst ((towE lo ul).map pkD))) s6 s7 (.ow .flat (dicA pkD pkD M)) s9 s10 s11 .un .un .un .un .un)
    (fun M q r => ∃ (c : Int) (s11 : Slot), r = E14 ns G TW U (.lst ((mems up).map tuI)) (.ow .flat (.lst ((towE lo ul).map pkD))) s6 (.sh (tuI q.1)) (.ow .flat (dicA pkD pkD M)) (.sh (.int (q.2 : Nat))) (.sh (.int c)) s11 .un .un .un .un .un)
    (X := (mems up).zipIdx) (L := []) (r := E14 ns G TW U (.lst ((mems up).map tuI)) (.ow .flat (.lst ((towE lo ul).map pkD))) s6 s7 (.ow .flat (dicA pkD pkD [])) .un .un .un .un .un .un .un .un) (by
      have := Nat.mul_le_mul l9 l9
      simpa using this) (by rw [zipIdx_fst]; exact mems_nodup up) (by simp)
    (fun M hM q hq y hy _ r ⟨c, s11, e⟩ => by
      subst e
      obtain ⟨p, hp, ep⟩ := pk c
      have mo := modD_ok (i := c) (j := (((towE lo ul).length : Nat) : Int)) (by omega)
      have dvN := divD_ok (i := c) (j := (((towE lo ul).length : Nat) : Int)) (by omega) (by have := bits_lt (i := (((towE lo ul).length : Nat) : Int)) (n := 8) (by omega) (by omega); omega)
      have dv1 := divD_ok (i := c) (j := 1) (by omega) (by decide)
      have sd : setD (dicA pkD pkD M) (.tup [tuI q.1, tuI y]) (pkD p) = .ok (dicA pkD pkD (setA M (q.1, y) p)) := setD_A (V := pkD) keyP M (q.1, y) p (by unfold lim; omega)
      cases hb : decide (z > 0) with
      | true =>
        rw [hb] at gt
        have ib : intD (.bl true) = .ok (.int 1) := rfl
        have ix : ixD (.lst [.int 1, .int ((towE lo ul).length : Nat)]) (.int 1) = .ok (.int ((towE lo ul).length : Nat)) := rfl
        refine ⟨p, _, hp, ?_, c / ((towE lo ul).length : Nat), .sh (tuI y), rfl⟩
        unfold E14
        generalize dicA pkD pkD (setA M (q.1, y) p) = D2 at *
        generalize dicA pkD pkD M = D1 at *
        generalize D.lst ((towE lo ul).map pkD) = TL at *
        generalize D.lst ((mems up).map tuI) = ML at *
        generalize (((towE lo ul).length : Nat) : Int) = N at *
        generalize c / N = c2 at *
        generalize c % N = c3 at *
        generalize pkD p = P at *
        generalize tuI q.1 = X at *
        generalize tuI y = Y at *
        simp [-ixD_lst, -lenD, -gtD_int, law_l3, law_s8_2_1, law_s8_2_2, setG, ownF, le, mo, ep, sd, l2, ce10, m3, gt, ib, ix, dvN]
      | false =>
        rw [hb] at gt
        have ib : intD (.bl false) = .ok (.int 0) := rfl
        have ix : ixD (.lst [.int 1, .int ((towE lo ul).length : Nat)]) (.int 0) = .ok (.int 1) := rfl
        refine ⟨p, _, hp, ?_, c / 1, .sh (tuI y), rfl⟩
        unfold E14
        generalize dicA pkD pkD (setA M (q.1, y) p) = D2 at *
        generalize dicA pkD pkD M = D1 at *
        generalize D.lst ((towE lo ul).map pkD) = TL at *
        generalize D.lst ((mems up).map tuI) = ML at *
        generalize (((towE lo ul).length : Nat) : Int) = N at *
        generalize c / 1 = c2 at *
        generalize c % N = c3 at *
        generalize pkD p = P at *
        generalize tuI q.1 = X at *
        generalize tuI y = Y at *
        simp [-ixD_lst, -lenD, -gtD_int, law_l3, law_s8_2_1, law_s8_2_2, setG, ownF, le, mo, ep, sd, l2, ce10, m3, gt, ib, ix, dv1])
    (fun M q hq r ⟨s7, s9, s10, s11, e⟩ => by
      subst e
      obtain ⟨h3, h4⟩ := mem_zipIdx_lt hq
      have mu : mulD (.int (q.2 : Nat)) (.int z) = .ok (.int ((q.2 : Nat) * z)) := mulD_small (.inr ⟨by omega, by omega⟩)
      have b1 : 0 ≤ ((q.2 : Nat) : Int) * z := Int.mul_nonneg (by omega) q1
      have b2 : ((q.2 : Nat) : Int) * z ≤ 9 * 2 := Int.mul_le_mul (by omega) (by omega) q1 (by omega)
      have ck := ce (6 + ((q.2 : Nat) : Int) * z) (by omega) (by omega)
      have ad : addD (.int 6) (.int ((q.2 : Nat) * z)) = .ok (.int (6 + (q.2 : Nat) * z)) := rfl
      generalize cellV ns (6 + ((q.2 : Nat) : Int) * z) = ck0 at *
      refine ⟨_, ⟨ck0, s11, rfl⟩, fun M' r2 e2 ⟨c', s11', p2⟩ => ⟨r2, ?_, ?_⟩⟩
      · unfold E14 at e2 ⊢
        generalize dicA pkD pkD M = D1 at *
        generalize D.lst ((towE lo ul).map pkD) = TL at *
        generalize D.lst ((mems up).map tuI) = ML at *
        generalize (mems up).map tuI = MM at *
        generalize ((q.2 : Nat) : Int) * z = kz at *
        generalize ((q.2 : Nat) : Int) = kk at *
        generalize tuI q.1 = X at *
        simp [law_l4, law_s8_1, law_s8_2, ce10, m3, mu, ad, ck, it, e2]
      · exact ⟨_, _, _, s11', p2⟩) ⟨_, _, _, _, rfl⟩
  subst e
  rw [List.nil_append] at lp
  have hk : M.map (·.1) = prs up := by
    rw [hk]
    have : ((mems up).zipIdx.flatMap fun a => (mems up).map fun y => (a.1, y)) = ((mems up).zipIdx.map (·.1)).flatMap fun x => (mems up).map fun y => (x, y) := by rw [List.flatMap_map]
    rw [this, zipIdx_fst]
    rfl
  have gn : (M.map (·.1)).Nodup := by rw [hk]; exact prs_nodup up
  refine ⟨fun x y => (lookA M (x, y)).getD (zeroT lo ul (fun _ _ => zeroV lo)), s7', s9, s10, s11, fun x y hx hy => ?_, ?_⟩
  · have hm : (x, y) ∈ M.map (·.1) := by rw [hk]; exact mem_prs.mpr ⟨mem_mems.mpr hx, mem_mems.mpr hy⟩
    obtain ⟨p, hp, e⟩ := List.mem_map.mp hm
    have := lookA_mem gn (show (p.1, p.2) ∈ M from hp)
    rw [e] at this
    show (lookA M (x, y)).getD _ ∈ _
    rw [this]
    exact hv p hp
  · have e := byRule (L := M) (g := fun p : List Int × List Int => (lookA M (p.1, p.2)).getD (zeroT lo ul (fun _ _ => zeroV lo))) (fun p hp => by
      have := lookA_mem gn (show (p.1, p.2) ∈ M from hp)
      show p.2 = (lookA M p.1).getD _
      rw [this]
      rfl)
    rw [show M.map (fun p => p.1) = prs up from hk] at e
    have ed : cG pkD up (fun x y => (lookA M (x, y)).getD (zeroT lo ul (fun _ _ => zeroV lo))) = dicA pkD pkD M := by
      show dicA pkD pkD ((prs up).map fun p => (p, (lookA M (p.1, p.2)).getD (zeroT lo ul (fun _ _ => zeroV lo)))) = _
      rw [← e]
    rw [ed]
    rw [show (dicA pkD pkD ([] : List ((List Int × List Int) × (List Int × List Int)))) = .dic [] [] from rfl] at lp
    rw [← enumL_els] at lp
    have en : enumS [.lst ((mems up).map tuI)] = .ok (enumL ((mems up).map tuI)) := rfl
    unfold E14 at *
    generalize dicA pkD pkD M = DM at *
    generalize D.lst ((towE lo ul).map pkD) = TL at *
    generalize hML : D.lst ((mems up).map tuI) = ML at *
    generalize enumL ((mems up).map tuI) = EN at *
    simp [law_s8, en, lp]
theorem cG_val (up : List Int) (c : List Int → List Int → List Int × List Int) : cG pkD up c = valD up fun x y => pkD (c x y) := by
  unfold cG valD dicF dicA
  simp only [List.map_map]
  rfl
theorem valD_set {up : List Int} {v : List Int → List Int → D} {x y : List Int} {d : D} (u : OkU up) (hx : OkE up x) (hy : OkE up y) : setD (valD up v) (.tup [tuI x, tuI y]) d = .ok (valD up fun p q => if (p, q) = (x, y) then d else v p q) := by
  have hp81 := u.prs_le
  have hm : (x, y) ∈ prs up := mem_prs.mpr ⟨mem_mems.mpr hx, mem_mems.mpr hy⟩
  have := setD_A (V := fun d : D => d) keyP ((prs up).map fun p => (p, v p.1 p.2)) (x, y) d (by rw [List.length_map]; unfold lim; omega)
  have e : setA ((prs up).map fun p => (p, v p.1 p.2)) (x, y) d = (prs up).map fun p => (p, (fun a b => if (a, b) = (x, y) then d else v a b) p.1 p.2) := by
    unfold setA
    have h : hasA ((prs up).map fun p => (p, v p.1 p.2)) (x, y) = true := by rw [hasA_map]; simp [hm]
    rw [if_pos h, List.map_map]
    refine List.map_congr_left fun p _ => ?_
    show (if p = (x, y) then (p, d) else (p, v p.1 p.2)) = (p, if (p.1, p.2) = (x, y) then d else v p.1 p.2)
    by_cases q : p = (x, y) <;> simp [q]
  rw [e] at this
  exact this
theorem pickU {up : List Int} (u : OkU up) (c : Int) : ∃ x, OkE up x ∧ ixD (.lst ((mems up).map tuI)) (.int (c % ((mems up).length : Nat))) = .ok (tuI x) := by
  have pos : 0 < (mems up).length := List.length_pos_of_mem (mem_mems.mpr (zero_el u.g.ok))
  obtain ⟨d, hd, e⟩ := ixD_pick (xs := (mems up).map tuI) c (((mems up).length : Nat) : Int) (by simp) (by omega)
  obtain ⟨x, hx, rfl⟩ := List.mem_map.mp hd
  exact ⟨x, mem_mems.mp hx, e⟩
theorem mul_true (n : Nat) (h : n ≤ 1000) : mulD (.tup [.bl true]) (.int (n : Nat)) = .ok (.tup (List.replicate n (.bl true))) := by
  have e : ∀ n : Nat, (List.replicate n [D.bl true]).flatten = List.replicate n (.bl true) := fun n => by
    induction n with
    | zero => rfl
    | succ n ih => rw [List.replicate_succ, List.flatten_cons, ih, List.replicate_succ]; rfl
  show (if ((n : Nat) : Int) ≤ 1000 ∧ (0 : Int) ≤ ((n : Nat) : Int) ∧ [D.bl true].length ≤ 1000 then Res.ok (D.tup (List.replicate ((n : Nat) : Int).toNat [D.bl true]).flatten) else .bad) = _
  rw [if_pos ⟨by omega, by omega, by simp⟩, Int.toNat_natCast, e]
/-- the row of things that are spoilt, or not -/
theorem new14 {lo ul : List Int} {p : List Int × List Int} (t : OkT lo ul) (hp : OkTE lo ul p) : ∃ T0 T1 T2 T3 T4 : D, (TH14 T0 ∧ TH14 T1 ∧ TH14 T2 ∧ TH14 T3 ∧ TH14 T4) ∧ addD (tuI p.1) (.tup [.int 0]) = .ok T0 ∧ addD (.tup [.int 9]) (tuI p.2) = .ok T1 ∧ addD (pkD p) (.tup [.int 0]) = .ok T2 ∧ listD (pkD p) = .ok T3 ∧
    mulD (.tup [.bl true]) (.int p.1.length) = .ok T4 ∧ TH14 (.tup [T0, tuI p.2]) ∧ TH14 (.tup [tuI p.1, T1]) ∧ TH14 (.tup [T4, tuI p.2]) := by
  have l7 := t.g1.ok.len
  have l7' := t.g2.ok.len
  have e1 := hp.1.len
  have e2 := hp.2.len
  have pi : ∀ x : List Int, (x.map D.int).all plainD = true := fun x => by
    rw [List.all_map]
    exact List.all_eq_true.mpr fun _ _ => rfl
  have pt : ∀ x : List Int, plainT (tuI x) = true := pi
  have oi : ∀ n (x : List Int), (x.map D.int).all (okQ n) = true := okQ_ints
  have i0 : TH14 (.tup (p.1.map D.int ++ [.int 0])) := ⟨by
    show (p.1.map D.int ++ [D.int 0]).all plainT = true
    rw [List.all_append, List.all_map]
    simp [plainT, plainD], by
    show (p.1.map D.int ++ [D.int 0]).all (okQ 63) = true
    rw [List.all_append, oi]
    rfl⟩
  have i1 : TH14 (.tup (.int 9 :: p.2.map D.int)) := ⟨by
    show ((D.int 9 :: p.2.map D.int)).all plainT = true
    rw [List.all_cons, List.all_map]
    simp [plainT, plainD], by
    show ((D.int 9 :: p.2.map D.int)).all (okQ 63) = true
    rw [List.all_cons, oi]
    rfl⟩
  have rb : ∀ n, (List.replicate n (D.bl true)).all plainD = true := fun n => by simp [plainD]
  have m4 : mulD (.tup [.bl true]) (.int p.1.length) = .ok (.tup (List.replicate p.1.length (.bl true))) := mul_true p.1.length (by omega)
  refine ⟨_, _, .tup [tuI p.1, tuI p.2, .int 0], .lst [tuI p.1, tuI p.2], .tup (List.replicate p.1.length (.bl true)), ⟨i0, i1, ⟨?_, ?_⟩, ⟨rfl, ?_⟩, ⟨?_, ?_⟩⟩, ?_, ?_, ?_, rfl, m4, ⟨?_, ?_⟩, ⟨?_, ?_⟩, ⟨?_, ?_⟩⟩
  · show (plainT (tuI p.1) && (plainT (tuI p.2) && (plainT (.int 0) && true))) = true
    rw [pt, pt]; rfl
  · show (okQ 63 (tuI p.1) && (okQ 63 (tuI p.2) && (okQ 63 (.int 0) && true))) = true
    rw [okQ_tI 62, okQ_tI 62]; rfl
  · show (okQ 63 (tuI p.1) && (okQ 63 (tuI p.2) && true)) = true
    rw [okQ_tI 62, okQ_tI 62]; rfl
  · show (List.replicate p.1.length (D.bl true)).all plainT = true
    simp [plainT, plainD]
  · show (List.replicate p.1.length (D.bl true)).all (okQ 63) = true
    simp
  · show (if (p.1.map D.int).length + 1 ≤ lim then Res.ok (D.tup (p.1.map D.int ++ [.int 0])) else .bad) = _
    rw [if_pos (by simp; unfold lim; omega)]
  · show (if 1 + (p.2.map D.int).length ≤ lim then Res.ok (D.tup ([.int 9] ++ p.2.map D.int)) else .bad) = _
    rw [if_pos (by simp; unfold lim; omega)]
    rfl
  · rfl
  · show (plainT (.tup (p.1.map D.int ++ [.int 0])) && (plainT (tuI p.2) && true)) = true
    have : plainT (.tup (p.1.map D.int ++ [D.int 0])) = true := by
      show (p.1.map D.int ++ [D.int 0]).all plainD = true
      rw [List.all_append, pi]; rfl
    rw [this, pt]; rfl
  · show (okQ 63 (.tup (p.1.map D.int ++ [.int 0])) && (okQ 63 (tuI p.2) && true)) = true
    have : okQ 63 (.tup (p.1.map D.int ++ [D.int 0])) = true := by
      show (p.1.map D.int ++ [D.int 0]).all (okQ 62) = true
      rw [List.all_append, oi]; rfl
    rw [this, okQ_tI 62]; rfl
  · show (plainT (tuI p.1) && (plainT (.tup (.int 9 :: p.2.map D.int)) && true)) = true
    have : plainT (.tup (D.int 9 :: p.2.map D.int)) = true := by
      show ((D.int 9 :: p.2.map D.int)).all plainD = true
      rw [List.all_cons, pi]; rfl
    rw [this, pt]; rfl
  · show (okQ 63 (tuI p.1) && (okQ 63 (.tup (.int 9 :: p.2.map D.int)) && true)) = true
    have : okQ 63 (.tup (D.int 9 :: p.2.map D.int)) = true := by
      show ((D.int 9 :: p.2.map D.int)).all (okQ 62) = true
      rw [List.all_cons, oi]; rfl
    rw [this, okQ_tI 62]; rfl
  · show (plainT (.tup (List.replicate p.1.length (.bl true))) && (plainT (tuI p.2) && true)) = true
    have : plainT (.tup (List.replicate p.1.length (D.bl true))) = true := rb _
    rw [this, pt]; rfl
  · show (okQ 63 (.tup (List.replicate p.1.length (.bl true))) && (okQ 63 (tuI p.2) && true)) = true
    have : okQ 63 (.tup (List.replicate p.1.length (D.bl true))) = true := by
      show (List.replicate p.1.length (D.bl true)).all (okQ 62) = true
      simp
    rw [this, okQ_tI 62]; rfl
theorem turn14 {ns lo ul up : List Int} {G TW U : D} {v : List Int → List Int → D} {k : Int} {s6 s7 s9 s10 s11 s12 s13 : Slot} (t : OkT lo ul) (u : OkU up) (l16 : (towE lo ul).length ≤ 16) (hz : zeroT lo ul (fun _ _ => zeroV lo) ∈ towE lo ul) (hv : ∀ x y, OkE up x → OkE up y → TH14 (v x y)) (h0 : 0 ≤ k) (h3 : k < 4) :
    ∃ v' s10' s12' s13', (∀ x y, OkE up x → OkE up y → TH14 (v' x y)) ∧ law_l5 (.int k) (E14 ns G TW U (.lst ((mems up).map tuI)) (.ow .flat (.lst ((towE lo ul).map pkD))) s6 s7 (.ow .flat (valD up v)) s9 s10 s11 s12 s13 .un .un .un) =
      .nx (E14 ns G TW U (.lst ((mems up).map tuI)) (.ow .flat (.lst ((towE lo ul).map pkD))) s6 s7 (.ow .flat (valD up v')) (.sh (.int k)) s10' s11 s12' s13' .un .un .un) := by
  have ce := cell_ok ns (12 + k) (by omega) (by omega)
  have ad : addD (.int 12) (.int k) = .ok (.int (12 + k)) := rfl
  generalize cellV ns (12 + k) = c at *
  have lp0 : 0 < (towE lo ul).length := List.length_pos_of_mem hz
  have pos : 0 < (mems up).length := List.length_pos_of_mem (mem_mems.mpr (zero_el u.g.ok))
  have le : lenD (.lst ((towE lo ul).map pkD)) = .ok (.int (towE lo ul).length) := by simp [lenD]
  have lm : lenD (.lst ((mems up).map tuI)) = .ok (.int (mems up).length) := by simp [lenD]
  have d64 := divD_ok (i := c) (j := 64) (by omega) (by decide)
  have mo1 := modD_ok (i := c / 64) (j := (((towE lo ul).length : Nat) : Int)) (by omega)
  obtain ⟨dd, hd, e1⟩ := ixD_pick (xs := (towE lo ul).map pkD) (c / 64) (((towE lo ul).length : Nat) : Int) (by simp) (by omega)
  obtain ⟨p, hp, rfl⟩ := List.mem_map.mp hd
  obtain ⟨T0, T1, T2, T3, T4, ⟨_, _, h2, h3', _⟩, a0, a1, a2, a3, a4, th0, th1, th4⟩ := new14 t (mem_towG.mp hp)
  have m7 := modD_ok (i := c) (j := 7) (by omega)
  have d7 := divD_ok (i := c) (j := 7) (by omega) (by decide)
  have d28 := divD_ok (i := c) (j := 28) (by omega) (by decide)
  have mo2 := modD_ok (i := c / 7) (j := (((mems up).length : Nat) : Int)) (by omega)
  have mo3 := modD_ok (i := c / 28) (j := (((mems up).length : Nat) : Int)) (by omega)
  obtain ⟨x, hx, ex⟩ := pickU u (c / 7)
  obtain ⟨y, hy, ey⟩ := pickU u (c / 28)
  obtain ⟨w, hw, ew⟩ := ixD_pick (xs := [.tup [T0, tuI p.2], .tup [tuI p.1, T1], T2, T3, .tup [T4, tuI p.2], .non, pkD p]) c 7 rfl (by omega)
  have tw : TH14 w := by
    simp only [List.mem_cons, List.not_mem_nil, or_false] at hw
    rcases hw with rfl | rfl | rfl | rfl | rfl | rfl | rfl
    · exact th0
    · exact th1
    · exact h2
    · exact h3'
    · exact th4
    · exact ⟨rfl, rfl⟩
    · exact th_pk p
  have sd := valD_set (v := v) (d := w) u hx hy
  have i0 : ixD (pkD p) (.int 0) = .ok (tuI p.1) := rfl
  have i1 : ixD (pkD p) (.int 1) = .ok (tuI p.2) := rfl
  have ln : lenD (tuI p.1) = .ok (.int p.1.length) := by simp [lenD, tuI]
  have l1 : 1 ≤ lim := by decide
  have l2 := l_two
  have l7 : 7 ≤ lim := by decide
  refine ⟨fun a b => if (a, b) = (x, y) then w else v a b, .sh (.int c), .sh (pkD p), .sh w, fun a b ha hb => ?_, ?_⟩
  · show TH14 (if (a, b) = (x, y) then w else v a b)
    split
    · exact tw
    · exact hv a b ha hb
  · unfold E14
    clear hd hw tw th0 th1 th4 h2 h3'
    generalize (valD up fun a b => if (a, b) = (x, y) then w else v a b) = D2 at *
    generalize valD up v = D1 at *
    generalize D.lst ((towE lo ul).map pkD) = TL at *
    generalize D.lst ((mems up).map tuI) = ML at *
    generalize (((towE lo ul).length : Nat) : Int) = n1 at *
    generalize (((mems up).length : Nat) : Int) = n2 at *
    generalize (p.1.length : Int) = n3 at *
    generalize pkD p = P at *
    generalize tuI p.1 = P1 at *
    generalize tuI p.2 = P2 at *
    generalize c / 64 = c64 at *
    generalize c / 7 = c7 at *
    generalize c / 28 = c28 at *
    generalize c64 % n1 = z1 at *
    generalize c7 % n2 = z2 at *
    generalize c28 % n2 = z3 at *
    generalize c % 7 = z4 at *
    generalize tuI x = X at *
    generalize tuI y = Y at *
    simp [-ixD_lst, -lenD, -listD, law_l5, law_s9_1, law_s9_2, law_s9_3, law_s9_4, law_s9_5, setG, ownF, ad, ce, le, lm, d64, mo1, e1, i0, i1, ln, a0, a1, a2, a3, a4, m7, ew, d7, d28, mo2, mo3, ex, ey, sd, l1, l2, l7]
theorem turns14 {ns lo ul up : List Int} {G TW U : D} {s6 s7 s11 : Slot} (t : OkT lo ul) (u : OkU up) (l16 : (towE lo ul).length ≤ 16) (hz : zeroT lo ul (fun _ _ => zeroV lo) ∈ towE lo ul) : ∀ (ks : List Int) {v : List Int → List Int → D} {s9 s10 s12 s13 : Slot}, (∀ x y, OkE up x → OkE up y → TH14 (v x y)) → (∀ k ∈ ks, 0 ≤ k ∧ k < 4) →
    ∃ v' s9' s10' s12' s13', (∀ x y, OkE up x → OkE up y → TH14 (v' x y)) ∧ forD law_l5 (ks.map D.int) (E14 ns G TW U (.lst ((mems up).map tuI)) (.ow .flat (.lst ((towE lo ul).map pkD))) s6 s7 (.ow .flat (valD up v)) s9 s10 s11 s12 s13 .un .un .un) =
      .nx (E14 ns G TW U (.lst ((mems up).map tuI)) (.ow .flat (.lst ((towE lo ul).map pkD))) s6 s7 (.ow .flat (valD up v')) s9' s10' s11 s12' s13' .un .un .un)
  | [], v, s9, s10, s12, s13, hv, _ => ⟨v, s9, s10, s12, s13, hv, rfl⟩
  | k :: ks, v, s9, s10, s12, s13, hv, h => by
    obtain ⟨h0, h3⟩ := h k List.mem_cons_self
    obtain ⟨v1, a10, a12, a13, hv1, e1⟩ := turn14 (ns := ns) (G := G) (TW := TW) (U := U) (s6 := s6) (s7 := s7) (s9 := s9) (s10 := s10) (s11 := s11) (s12 := s12) (s13 := s13) t u l16 hz hv h0 h3
    obtain ⟨v2, b9, b10, b12, b13, hv2, e2⟩ := turns14 t u l16 hz ks hv1 (fun q hq => h q (List.mem_cons_of_mem _ hq)) (s9 := .sh (.int k)) (s10 := a10) (s12 := a12) (s13 := a13)
    refine ⟨v2, b9, b10, b12, b13, hv2, ?_⟩
    rw [List.map_cons, forD_cons, e1]
    exact e2
def dueX : Option (List Int × List Int) → D
  | some p => .tup [tuI p.1, tuI p.2]
  | none => .non
section
variable {ns lo ul up : List Int} {c0 : List Int → List Int → List Int} {TW U TL : D} {v : List Int → List Int → D} {s6 s9 s10 s12 s13 : Slot}
def R14 (ns : List Int) (GRD TW U : D) (up : List Int) (TL : D) (v : List Int → List Int → D) (s6 s7 s9 s10 s11 s12 s13 s14 : Slot) : Env := E14 ns GRD TW U (.lst ((mems up).map tuI)) (.ow .flat TL) s6 s7 (.ow .flat (valD up v)) s9 s10 s11 s12 s13 s14 .un .un
theorem dueX_step {s11 : Slot} {o : Option (List Int × List Int)} (t : OkT lo ul) (hv : ∀ x y, OkE up x → OkE up y → TH14 (v x y)) {x y : List Int} (hx : OkE up x) (hy : OkE up y) :
    law_l6 (tuI y) (R14 ns (grd lo ul c0) TW U up TL v s6 (.sh (tuI x)) s9 s10 s11 s12 s13 (.sh (dueX o))) = .nx (R14 ns (grd lo ul c0) TW U up TL v s6 (.sh (tuI x)) s9 s10 (.sh (tuI y)) s12 s13 (.sh (dueX (o.or (if elT lo ul (v x y) = true then none else some (x, y)))))) := by
  have gi := (valD_get (v := v) hx hy).1
  have hh := q_has14 (c := c0) t (hv x y hx hy).pl
  have l2 := l_two
  unfold R14 E14
  cases o with
  | some p =>
    have nn : isN (dueX (some p)) .non = .ok (.bl false) := rfl
    rw [show (some p).or (if elT lo ul (v x y) = true then none else some (x, y)) = some p from rfl]
    generalize dueX (some p) = DU at *
    generalize valD up v = AM at *
    generalize D.lst ((mems up).map tuI) = ML at *
    generalize grd lo ul c0 = G at *
    generalize tuI x = X at *
    generalize tuI y = Y at *
    simp [law_l6, law_s11_1_1, nn]
  | none =>
    have nn : isN .non .non = .ok (.bl true) := rfl
    rw [show (none : Option (List Int × List Int)).or (if elT lo ul (v x y) = true then none else some (x, y)) = (if elT lo ul (v x y) = true then none else some (x, y)) from rfl]
    rw [show dueX none = .non from rfl]
    cases hb : elT lo ul (v x y) with
    | true =>
      rw [hb] at hh
      rw [if_pos rfl, show dueX none = .non from rfl]
      generalize valD up v = AM at *
      generalize D.lst ((mems up).map tuI) = ML at *
      generalize grd lo ul c0 = G at *
      generalize v x y = w at *
      generalize tuI x = X at *
      generalize tuI y = Y at *
      simp [law_l6, law_s11_1_1, nn, gi, hh, l2]
    | false =>
      rw [hb] at hh
      rw [if_neg (by simp)]
      show _ = Oc.nx [_, _, _, _, _, _, _, _, _, _, _, _, _, _, .sh (.tup [tuI x, tuI y]), _, _]
      generalize valD up v = AM at *
      generalize D.lst ((mems up).map tuI) = ML at *
      generalize grd lo ul c0 = G at *
      generalize v x y = w at *
      generalize tuI x = X at *
      generalize tuI y = Y at *
      simp [law_l6, law_s11_1_1, law_s11_1_1_1, nn, gi, hh, l2]
theorem dueX_row (t : OkT lo ul) (hv : ∀ x y, OkE up x → OkE up y → TH14 (v x y)) {x : List Int} (hx : OkE up x) : ∀ {ys : List (List Int)} {o : Option (List Int × List Int)} {s11 : Slot}, (∀ y ∈ ys, OkE up y) →
    ∃ s11', forD law_l6 (ys.map tuI) (R14 ns (grd lo ul c0) TW U up TL v s6 (.sh (tuI x)) s9 s10 s11 s12 s13 (.sh (dueX o))) = .nx (R14 ns (grd lo ul c0) TW U up TL v s6 (.sh (tuI x)) s9 s10 s11' s12 s13 (.sh (dueX (o.or ((ys.find? fun y => !elT lo ul (v x y)).map fun y => (x, y))))))
  | [], o, s11, _ => ⟨s11, by cases o <;> rfl⟩
  | y :: ys, o, s11, hy => by
    have e := dueX_step (ns := ns) (c0 := c0) (TW := TW) (U := U) (TL := TL) (s6 := s6) (s9 := s9) (s10 := s10) (s11 := s11) (s12 := s12) (s13 := s13) (o := o) t hv hx (hy y List.mem_cons_self)
    obtain ⟨s11', ih⟩ := dueX_row t hv hx (ys := ys) (o := o.or (if elT lo ul (v x y) = true then none else some (x, y))) (s11 := .sh (tuI y)) (fun z hz => hy z (List.mem_cons_of_mem _ hz))
    refine ⟨s11', ?_⟩
    rw [List.map_cons, forD_cons, e]
    have k : (o.or (if elT lo ul (v x y) = true then none else some (x, y))).or ((ys.find? fun y => !elT lo ul (v x y)).map fun y => (x, y)) = o.or (((y :: ys).find? fun y => !elT lo ul (v x y)).map fun y => (x, y)) := by
      rw [List.find?_cons]
      cases o with
      | some p => rfl
      | none => cases elT lo ul (v x y) <;> rfl
    rw [← k]
    exact ih
theorem dueX_rows (t : OkT lo ul) (hv : ∀ x y, OkE up x → OkE up y → TH14 (v x y)) : ∀ {xs : List (List Int)} {o : Option (List Int × List Int)} {s7 s11 : Slot}, (∀ x ∈ xs, OkE up x) →
    ∃ s7' s11', forD law_l7 (xs.map tuI) (R14 ns (grd lo ul c0) TW U up TL v s6 s7 s9 s10 s11 s12 s13 (.sh (dueX o))) = .nx (R14 ns (grd lo ul c0) TW U up TL v s6 s7' s9 s10 s11' s12 s13 (.sh (dueX (o.or (firstX up (fun x y => elT lo ul (v x y)) xs)))))
  | [], o, s7, s11, _ => ⟨s7, s11, by cases o <;> rfl⟩
  | x :: xs, o, s7, s11, hx => by
    obtain ⟨s11', e⟩ := dueX_row (ns := ns) (c0 := c0) (TW := TW) (U := U) (TL := TL) (s6 := s6) (s9 := s9) (s10 := s10) (s12 := s12) (s13 := s13) t hv (hx x List.mem_cons_self) (ys := mems up) (o := o) (s11 := s11) (fun y hy => mem_mems.mp hy)
    obtain ⟨a, b, ih⟩ := dueX_rows t hv (xs := xs) (o := o.or (((mems up).find? fun y => !elT lo ul (v x y)).map fun y => (x, y))) (s7 := .sh (tuI x)) (s11 := s11') (fun z hz => hx z (List.mem_cons_of_mem _ hz))
    refine ⟨a, b, ?_⟩
    have it : itemsD (.lst ((mems up).map tuI)) = .ok ((mems up).map tuI) := rfl
    have st : law_l7 (tuI x) (R14 ns (grd lo ul c0) TW U up TL v s6 s7 s9 s10 s11 s12 s13 (.sh (dueX o))) = forD law_l6 ((mems up).map tuI) (R14 ns (grd lo ul c0) TW U up TL v s6 (.sh (tuI x)) s9 s10 s11 s12 s13 (.sh (dueX o))) := by
      unfold R14 E14
      generalize dueX o = DU at *
      generalize valD up v = AM at *
      generalize hML : D.lst ((mems up).map tuI) = ML at *
      generalize (mems up).map tuI = MM at *
      generalize grd lo ul c0 = G at *
      generalize tuI x = X at *
      simp [law_l7, law_s11_1, it]
    rw [List.map_cons, forD_cons, st, e]
    have k : (o.or (((mems up).find? fun y => !elT lo ul (v x y)).map fun y => (x, y))).or (firstX up (fun x y => elT lo ul (v x y)) xs) = o.or (firstX up (fun x y => elT lo ul (v x y)) (x :: xs)) := by
      unfold firstX
      rw [List.findSome?_cons]
      cases o with
      | some p => rfl
      | none => cases (mems up).find? fun y => !elT lo ul (v x y) <;> rfl
    rw [← k]
    exact ih
end
theorem elT_is {lo ul : List Int} {d : D} (h : elT lo ul d = true) : ∃ p, p ∈ towE lo ul ∧ d = pkD p := by
  unfold elT at h
  split at h
  · rename_i a b
    rw [Bool.and_eq_true] at h
    obtain ⟨x, hx, rfl⟩ := elB_el h.1
    obtain ⟨y, hy, rfl⟩ := elB_el h.2
    exact ⟨(x, y), mem_towG.mpr ⟨hx, hy⟩, rfl⟩
  · cases h
/-- where nothing lacks, the carries are a tower's elements -/
theorem none14 {lo ul up : List Int} {v : List Int → List Int → D} (hn : firstX up (fun x y => elT lo ul (v x y)) (mems up) = none) : ∃ c : List Int → List Int → List Int × List Int, OkCG (towE lo ul) up c ∧ valD up v = cG pkD up c := by
  have all : ∀ x y, OkE up x → OkE up y → elT lo ul (v x y) = true := fun x y hx hy => by
    unfold firstX at hn
    rw [List.findSome?_eq_none_iff] at hn
    have h1 := hn x (mem_mems.mpr hx)
    rw [Option.map_eq_none_iff, List.find?_eq_none] at h1
    have h2 := h1 y (mem_mems.mpr hy)
    cases e : elT lo ul (v x y) with
    | true => rfl
    | false => simp [e] at h2
  have hc : ∀ x y, ∃ p : List Int × List Int, OkE up x → OkE up y → p ∈ towE lo ul ∧ v x y = pkD p := fun x y => by
    by_cases h : OkE up x ∧ OkE up y
    · obtain ⟨p, hp, e⟩ := elT_is (all x y h.1 h.2)
      exact ⟨p, fun _ _ => ⟨hp, e⟩⟩
    · exact ⟨([], []), fun a b => absurd ⟨a, b⟩ h⟩
  refine ⟨fun x y => Classical.choose (hc x y), fun x y hx hy => (Classical.choose_spec (hc x y) hx hy).1, ?_⟩
  rw [cG_val]
  unfold valD dicF
  congr 1
  refine List.map_congr_left fun p hp => ?_
  obtain ⟨h1, h2⟩ := mem_prs.mp (show (p.1, p.2) ∈ prs up from hp)
  show (p, v p.1 p.2) = (p, pkD (Classical.choose (hc p.1 p.2)))
  exact congrArg (Prod.mk p) (Classical.choose_spec (hc p.1 p.2) (mem_mems.mp h1) (mem_mems.mp h2)).2
theorem towE_lenG (lo up : List Int) : (towE lo up).length = (mems lo).length * (mems up).length := by
  unfold towE
  induction mems lo with
  | nil => simp
  | cons a l ih =>
    rw [List.flatMap_cons, List.length_append, ih, List.length_map, List.length_cons, Nat.succ_mul, Nat.add_comm]
theorem orT_none {o : Option (List D)} : isN (orT o) .non = .ok (.bl o.isNone) ∧ notN (orT o) .non = .ok (.bl o.isSome) := by
  cases o <;> exact ⟨rfl, rfl⟩
theorem s3G_ok {α : Type} [DecidableEq α] {put : α → α → α} {up : List Int} {c : List Int → List Int → α} {l : List D} (h : break3G put up c = some l) : okQ 64 (.tup l) = true := by
  unfold break3G at h
  obtain ⟨x, _, h⟩ := List.exists_of_findSome?_eq_some h
  obtain ⟨y, _, h⟩ := List.exists_of_findSome?_eq_some h
  obtain ⟨z, _, h⟩ := List.exists_of_findSome?_eq_some h
  unfold s3G at h
  split at h
  · cases h
  · cases h
    exact okQ_rowsC 62 [x, y, z]
theorem s2G_ok {α : Type} [DecidableEq α] {up : List Int} {c : List Int → List Int → α} (o : Option (List D)) (h : break2G up c = o) : okQ 64 (orT o) = true := by
  cases o with
  | none => rfl
  | some l =>
    unfold break2G at h
    obtain ⟨x, _, h⟩ := List.exists_of_findSome?_eq_some h
    obtain ⟨y, _, h⟩ := List.exists_of_findSome?_eq_some h
    unfold s2G at h
    split at h
    · cases h
    · cases h
      exact okQ_rowsC 62 [x, y]
section
variable {ns lo ul up : List Int} {c0 : List Int → List Int → List Int} {v : List Int → List Int → D} {s6 s7 s9 s10 s11 s12 s13 : Slot}
def Z14 (ns : List Int) (lo ul : List Int) (c0 : List Int → List Int → List Int) (up : List Int) (CD : Slot) (s6 s7 s9 s10 s11 s12 s13 s14 s15 s16 : Slot) : Env := E14 ns (grd lo ul c0) (towD lo ul c0) (tuI up) (.lst ((mems up).map tuI)) (.ow .flat (.lst ((towE lo ul).map pkD))) s6 s7 CD s9 s10 s11 s12 s13 s14 s15 s16
/-- the end where a refusal is due -/
theorem end14 {CD : D} {DU : D} (ok : okQ 64 DU = true) (nn : notN DU .non = .ok (.bl true)) (h : d_q_asked [towD lo ul c0, tuI up, CD] = .ok DU) (B : Env → Oc) :
    ((law_s13 (Z14 ns lo ul c0 up (.ow .flat CD) s6 s7 s9 s10 s11 s12 s13 (.sh DU) .un .un)).seq fun r => (law_s14 r).seq B) = .rt (.bl true) := by
  have rf : eqD DU DU = .ok (.bl true) := eqD_refl ok
  unfold Z14 E14
  generalize grd lo ul c0 = G at *
  generalize towD lo ul c0 = TW at *
  generalize D.lst ((mems up).map tuI) = ML at *
  generalize D.lst ((towE lo ul).map pkD) = TL at *
  generalize tuI up = U at *
  simp [law_s13, law_s14, freeze, frzAt, h, nn, rf]
end
theorem law_ok (ns : List Int) (hl : ns.length ≤ 63) : d_law [.scr ns] = .ok (.bl true) := by
  have ce := fun (k : Int) (h0 : 0 ≤ k) (h : k ≤ 100) => cell_ok ns k h0 (by omega)
  obtain ⟨lo, ul, c0, t, ⟨p1, p2⟩, oc0, th, eg⟩ := ground_ok ns
  obtain ⟨up, m5, er5⟩ := q_rounds_ok (c := cellV ns 5) (most := 4) (gr := 4) (by omega) (by omega) (by omega)
  have u : OkU up := ⟨m5.ok, by have := m5.prod; omega⟩
  have ce5 := ce 5 (by omega) (by omega)
  have ce11 := ce 11 (by omega) (by omega)
  have l16 : (towE lo ul).length ≤ 16 := by
    rw [towE_lenG]
    have e1 := mems_len (rs := lo) (fun n hn => by have := t.g1.ok.two n hn; omega)
    have e2 := mems_len (rs := ul) (fun n hn => by have := t.g2.ok.two n hn; omega)
    exact Nat.mul_le_mul (show (mems lo).length ≤ 4 by omega) (show (mems ul).length ≤ 4 by omega)
  have hz : zeroT lo ul (fun _ _ => zeroV lo) ∈ towE lo ul := mem_towG.mpr (zeroT_el t fun _ _ _ _ => zero_el t.g1.ok)
  have i1 := init_ok t.g1 (tuI lo) (.inl rfl)
  have i2 := init_ok t.g2 (tuI ul) (.inl rfl)
  have i3 := init_ok u.g (tuI up) (.inl rfl)
  have tb := tableC_ok t oc0
  have tw := tower_ok t oc0 (three_none th)
  have ms := q_members_ok u.g.ok u.g.most u.g.prod
  have g0 : ixD (grd lo ul c0) (.int 0) = .ok (tuI lo) := rfl
  have g1 : ixD (grd lo ul c0) (.int 1) = .ok (tuI ul) := rfl
  have g2 : ixD (grd lo ul c0) (.int 2) = .ok (cD ul c0) := rfl
  have eg : d_q_ground [.scr ns] = .ok (grd lo ul c0) := eg
  have tb : d_Table_init [gR lo, gR ul, cD ul c0] = .ok (tabD lo ul c0) := tb
  refine runD_rt rfl ?_
  simp only [startD, N_law, List.length_cons, List.length_nil, List.map_cons, List.map_nil, Nat.reduceAdd, Nat.reduceSub, Nat.zero_add, List.replicate, List.cons_append, List.nil_append]
  unfold e_law
  refine seq_nx (r1 := [.sh (.scr ns), .sh (grd lo ul c0), .un, .un, .un, .un, .un, .un, .un, .un, .un, .un, .un, .un, .un, .un, .un]) (by
    generalize grd lo ul c0 = G at *
    simp [law_s1, eg]) ?_
  refine seq_nx (r1 := [.sh (.scr ns), .sh (grd lo ul c0), .sh (towD lo ul c0), .un, .un, .un, .un, .un, .un, .un, .un, .un, .un, .un, .un, .un, .un]) (by
    generalize grd lo ul c0 = G at *
    generalize towD lo ul c0 = TW at *
    generalize tabD lo ul c0 = TB at *
    generalize cD ul c0 = C0 at *
    simp [law_s2, g0, g1, g2, i1, i2, tb, tw]) ?_
  refine seq_nx (r1 := [.sh (.scr ns), .sh (grd lo ul c0), .sh (towD lo ul c0), .sh (tuI up), .un, .un, .un, .un, .un, .un, .un, .un, .un, .un, .un, .un, .un]) (by
    generalize grd lo ul c0 = G at *
    generalize towD lo ul c0 = TW at *
    generalize tuI up = U at *
    simp [law_s3, ce5, er5]) ?_
  refine seq_nx (r1 := [.sh (.scr ns), .sh (grd lo ul c0), .sh (towD lo ul c0), .sh (tuI up), .sh (.lst ((mems up).map tuI)), .un, .un, .un, .un, .un, .un, .un, .un, .un, .un, .un, .un]) (by
    generalize grd lo ul c0 = G at *
    generalize towD lo ul c0 = TW at *
    generalize D.lst ((mems up).map tuI) = ML at *
    generalize tuI up = U at *
    simp [law_s4, ms]) ?_
  refine seq_nx (r1 := E14 ns (grd lo ul c0) (towD lo ul c0) (tuI up) (.lst ((mems up).map tuI)) (.ow .flat (.lst [])) .un .un .un .un .un .un .un .un .un .un .un) (by
    unfold E14
    generalize grd lo ul c0 = G at *
    generalize towD lo ul c0 = TW at *
    generalize D.lst ((mems up).map tuI) = ML at *
    simp [law_s5]) ?_
  obtain ⟨s6, s7, e6⟩ := things14 (ns := ns) (c0 := c0) (TW := towD lo ul c0) (U := tuI up) (ML := .lst ((mems up).map tuI)) t l16
  refine seq_nx e6 ?_
  refine seq_nx (r1 := Z14 ns lo ul c0 up (.ow .flat (.dic [] [])) s6 s7 .un .un .un .un .un .un .un .un) (by
    unfold Z14 E14
    generalize grd lo ul c0 = G at *
    generalize towD lo ul c0 = TW at *
    generalize D.lst ((mems up).map tuI) = ML at *
    generalize D.lst ((towE lo ul).map pkD) = TL at *
    simp [law_s7]) ?_
  obtain ⟨c, s7', s9, s10, s11, oc, e8⟩ := draw14 (ns := ns) (G := grd lo ul c0) (TW := towD lo ul c0) (U := tuI up) (s6 := s6) (s7 := s7) u l16 hz
  refine seq_nx e8 ?_
  have q1 := Int.emod_nonneg (cellV ns 11) (show (5 : Int) ≠ 0 by omega)
  have q2 := Int.emod_lt_of_pos (cellV ns 11) (show (0 : Int) < 5 by omega)
  have m5' := modD_ok (i := cellV ns 11) (j := 5) (by omega)
  have d2 := divD_ok (i := cellV ns 11 % 5) (j := 2) (by omega) (by decide)
  generalize cellV ns 11 = w11 at *
  have z0 : 0 ≤ w11 % 5 / 2 ∧ w11 % 5 / 2 ≤ 2 := by omega
  generalize w11 % 5 = w5 at *
  generalize w5 / 2 = z at *
  obtain ⟨v, a9, a10, a12, a13, hv, e9⟩ := turns14 (ns := ns) (G := grd lo ul c0) (TW := towD lo ul c0) (U := tuI up) (s6 := s6) (s7 := s7') (s11 := s11) t u l16 hz ((List.range z.toNat).map fun k : Nat => (k : Int)) (v := fun x y => pkD (c x y)) (fun x y _ _ => th_pk _) (s9 := s9) (s10 := s10) (s12 := .un) (s13 := .un) (fun k hk => by
    obtain ⟨j, hj, rfl⟩ := List.mem_map.mp hk
    have := List.mem_range.mp hj
    omega)
  rw [← cG_val] at e9
  refine seq_nx (r1 := R14 ns (grd lo ul c0) (towD lo ul c0) (tuI up) up (.lst ((towE lo ul).map pkD)) v s6 s7' a9 a10 s11 a12 a13 .un) (by
    unfold R14
    rw [← e9]
    have rg : rng1 [.int z] = .ok (((List.range z.toNat).map fun k : Nat => (k : Int)).map D.int) := by
      rcases (show z = 0 ∨ z = 1 ∨ z = 2 by omega) with rfl | rfl | rfl <;> rfl
    have gs : getS 0 (E14 ns (grd lo ul c0) (towD lo ul c0) (tuI up) (.lst ((mems up).map tuI)) (.ow .flat (.lst ((towE lo ul).map pkD))) s6 s7' (.ow .flat (cG pkD up c)) s9 s10 s11 .un .un .un .un .un) = .ok (.scr ns) := rfl
    generalize E14 ns (grd lo ul c0) (towD lo ul c0) (tuI up) (.lst ((mems up).map tuI)) (.ow .flat (.lst ((towE lo ul).map pkD))) s6 s7' (.ow .flat (cG pkD up c)) s9 s10 s11 .un .un .un .un .un = R at *
    simp [law_s9, gs, ce11, m5', d2, rg]) ?_
  refine seq_nx (r1 := R14 ns (grd lo ul c0) (towD lo ul c0) (tuI up) up (.lst ((towE lo ul).map pkD)) v s6 s7' a9 a10 s11 a12 a13 (.sh (dueX none))) (by
    unfold R14 E14
    generalize grd lo ul c0 = G at *
    generalize towD lo ul c0 = TW at *
    generalize D.lst ((mems up).map tuI) = ML at *
    generalize D.lst ((towE lo ul).map pkD) = TL at *
    generalize valD up v = VD at *
    generalize tuI up = U at *
    simp [law_s10, dueX]) ?_
  obtain ⟨b7, b11, e11⟩ := dueX_rows (ns := ns) (c0 := c0) (TW := towD lo ul c0) (U := tuI up) (TL := .lst ((towE lo ul).map pkD)) (s6 := s6) (s9 := a9) (s10 := a10) (s12 := a12) (s13 := a13) t hv (xs := mems up) (o := none) (s7 := s7') (s11 := s11) (fun x hx => mem_mems.mp hx)
  have it : itemsD (.lst ((mems up).map tuI)) = .ok ((mems up).map tuI) := rfl
  refine seq_nx (r1 := Z14 ns lo ul c0 up (.ow .flat (valD up v)) s6 b7 a9 a10 b11 a12 a13 (.sh (dueX (firstX up (fun x y => elT lo ul (v x y)) (mems up)))) .un .un) (by
    have e11 : forD law_l7 ((mems up).map tuI) (R14 ns (grd lo ul c0) (towD lo ul c0) (tuI up) up (.lst ((towE lo ul).map pkD)) v s6 s7' a9 a10 s11 a12 a13 (.sh (dueX none))) = .nx (Z14 ns lo ul c0 up (.ow .flat (valD up v)) s6 b7 a9 a10 b11 a12 a13 (.sh (dueX (firstX up (fun x y => elT lo ul (v x y)) (mems up)))) .un .un) := e11
    rw [← e11]
    have gs : getS 4 (R14 ns (grd lo ul c0) (towD lo ul c0) (tuI up) up (.lst ((towE lo ul).map pkD)) v s6 s7' a9 a10 s11 a12 a13 (.sh (dueX none))) = .ok (.lst ((mems up).map tuI)) := rfl
    generalize R14 ns (grd lo ul c0) (towD lo ul c0) (tuI up) up (.lst ((towE lo ul).map pkD)) v s6 s7' a9 a10 s11 a12 a13 (.sh (dueX none)) = R at *
    generalize hML : D.lst ((mems up).map tuI) = ML at *
    generalize (mems up).map tuI = MM at *
    simp [law_s11, gs, it]) ?_
  have neI : ∀ a b : List Int, neD (tuI a) (tuI b) = .ok (.bl (!decide (a = b))) := (lowR t.g1 t.p1).neV
  have tq : d_q_two [tuI ul, cD ul c0] = .ok (orT (break2G ul c0)) := q_two14 (V := tuI) neI ⟨t.g2, t.p2⟩
  have nn2 := (orT_none (o := break2G ul c0)).2
  have sz : SizeF ((towE lo ul).length : Nat) (towD lo ul c0) := ⟨_, rfl, tsize_ok t⟩
  cases hb : break2G ul c0 with
  | some l =>
    rw [hb] at tq nn2
    have ev : ∃ f, mthD mt_is_even_T (towD lo ul c0) = .ok f ∧ f [] = .ok (.bl false) := ⟨_, rfl, by
      have := teven_ok (lo := lo) (up := ul) (c := c0) t
      have hne : (break2 ul c0).isNone = false := by
        cases h : break2 ul c0 with
        | some _ => rfl
        | none =>
          have := break2G_none.mpr (break2_none.mp h)
          rw [hb] at this
          cases this
      rw [hne] at this
      exact this⟩
    refine seq_nx (r1 := Z14 ns lo ul c0 up (.ow .flat (valD up v)) s6 b7 a9 a10 b11 a12 a13 (.sh (.str "lower")) .un .un) (by
      unfold Z14 E14
      generalize hG : grd lo ul c0 = G at *
      generalize towD lo ul c0 = TW at *
      generalize D.lst ((mems up).map tuI) = ML at *
      generalize D.lst ((towE lo ul).map pkD) = TL at *
      generalize valD up v = VD at *
      generalize cD ul c0 = C0 at *
      generalize orT (some l) = OT at *
      simp [law_s12, law_s12_1, g1, g2, tq, nn2]) ?_
    exact end14 (by kernel_rfl) rfl (asked14_lower i3 (uneven14 sz (by omega) ev)) _
  | none =>
    rw [hb] at tq nn2
    have sy := break2G_none.mp hb
    have E : EvenT lo ul c0 := ⟨t, oc0, th, sy, l16⟩
    refine seq_nx (r1 := Z14 ns lo ul c0 up (.ow .flat (valD up v)) s6 b7 a9 a10 b11 a12 a13 (.sh (dueX (firstX up (fun x y => elT lo ul (v x y)) (mems up)))) .un .un) (by
      unfold Z14 E14
      generalize hG : grd lo ul c0 = G at *
      generalize towD lo ul c0 = TW at *
      generalize D.lst ((mems up).map tuI) = ML at *
      generalize D.lst ((towE lo ul).map pkD) = TL at *
      generalize valD up v = VD at *
      generalize cD ul c0 = C0 at *
      generalize dueX (firstX up (fun x y => elT lo ul (v x y)) (mems up)) = DU at *
      have tq : d_q_two [tuI ul, C0] = .ok .non := tq
      simp [law_s12, g1, g2, tq, show notN .non .non = .ok (.bl false) from rfl]) ?_
    cases hf : firstX up (fun x y => elT lo ul (v x y)) (mems up) with
    | some p =>
      have tx := tableX14 (G := towD lo ul c0) (v := v) (hb := fun x y => elT lo ul (v x y)) sz (by omega) (evenT E) u (f := fun ds => d_Tower_has (towD lo ul c0 :: ds)) rfl (fun x y hx hy => thas_any (hv x y hx hy).pl) hf
      exact end14 (by show ([p.1, p.2].map tuI).all (okQ 63) = true; exact okQ_rowsC 62 [p.1, p.2]) rfl (asked14_carry i3 tx) _
    | none =>
      obtain ⟨c, oc, ev⟩ := none14 hf
      rw [ev]
      have L := lowT E
      have tb := tableG_ok (V := pkD) (els := towE lo ul) (c := c) sz (by omega) (evenT E) u hasT (cG pkD up c) (fun x y hx hy => by
        have := valD_get (v := fun x y => pkD (c x y)) hx hy
        rw [← cG_val] at this
        exact ⟨this.2, this.1, oc x y hx hy⟩)
      have as := asked14_ok i3 tb
      have cr := carriesG_ok (V := pkD) (G := towD lo ul c0) (c := c) u
      have cr : d_Table_carries [tabG pkD (towD lo ul c0) up c] = .ok (cG pkD up c) := cr
      have mc : mthD mt_carries (tabG pkD (towD lo ul c0) up c) = .ok (fun ds => d_Table_carries (tabG pkD (towD lo ul c0) up c :: ds)) := rfl
      have nec : neD (cG pkD up c) (cG pkD up c) = .ok (.bl false) := by
        have := (eqD_FG (V := pkD) keyP okQ_pkG eqQ_pkG (prs up) (fun p => c p.1 p.2) (fun p => c p.1 p.2)).2
        rw [decide_eq_true (fun _ _ => rfl)] at this
        exact this
      have b2 := break2G_ok (G := towD lo ul c0) (c := c) L u
      have tq2 := q_two14 (V := pkD) (c := c) L.neV u
      have ne2 : neD (orT (break2G up c)) (orT (break2G up c)) = .ok (.bl false) := neD_refl (s2G_ok _ rfl)
      have qb := q_broken14 (c0 := c0) t oc0 u oc
      have b3 := break3G_ok (G := towD lo ul c0) (c := c) L u (addT E) oc
      have ok3 : okQ 64 (orT (break3G (putT lo ul c0) up c)) = true := by
        cases h : break3G (putT lo ul c0) up c with
        | none => rfl
        | some l => exact s3G_ok h
      have eq3 : eqD (orT (break3G (putT lo ul c0) up c)) (orT (break3G (putT lo ul c0) up c)) = .ok (.bl true) := eqD_refl ok3
      have fm : MemF pkD (towE lo ul) (towD lo ul c0) := ⟨_, rfl, tmembers_ok t⟩
      have ln1 : lenD (.lst ((towE lo ul).map pkD)) = .ok (.int (towE lo ul).length) := by simp [lenD]
      have ln2 : lenD (.lst ((mems up).map tuI)) = .ok (.int (mems up).length) := by simp [lenD]
      have l9 := u.mems_le
      have ml : mulD (.int ((towE lo ul).length : Nat)) (.int ((mems up).length : Nat)) = .ok (.int ((allG (towE lo ul) up).length : Nat)) := by
        rw [mulD_small (.inr ⟨by omega, by omega⟩)]
        have e : (allG (towE lo ul) up).length = (towE lo ul).length * (mems up).length := by unfold allG; simp [List.length_flatMap, sum_const]
        rw [e, Int.natCast_mul]
      have rt : d_q_tower_right [tabG pkD (towD lo ul c0) up c, orT (break3G (putT lo ul c0) up c), .int ((allG (towE lo ul) up).length : Nat)] = .ok (.bl true) := by
        cases h : break3G (putT lo ul c0) up c with
        | none => exact right14_none L u fm (towG_ok L u (addT E) oc h)
        | some l => exact right14_three (towG_er L u (addT E) oc h) (by rw [h] at ok3; exact ok3)
      refine seq_nx (r1 := Z14 ns lo ul c0 up (.sh (cG pkD up c)) s6 b7 a9 a10 b11 a12 a13 (.sh .non) (.sh (tabG pkD (towD lo ul c0) up c)) .un) (by
        unfold Z14 E14
        generalize hG : grd lo ul c0 = G at *
        generalize tabG pkD (towD lo ul c0) up c = T at *
        generalize towD lo ul c0 = TW at *
        generalize D.lst ((mems up).map tuI) = ML at *
        generalize D.lst ((towE lo ul).map pkD) = TL at *
        generalize cG pkD up c = C at *
        generalize tuI up = U at *
        simp [law_s13, frzAt, freeze, dueX, as]) ?_
      refine seq_nx (r1 := Z14 ns lo ul c0 up (.sh (cG pkD up c)) s6 b7 a9 a10 b11 a12 a13 (.sh .non) (.sh (tabG pkD (towD lo ul c0) up c)) .un) (by
        unfold Z14 E14
        generalize hG : grd lo ul c0 = G at *
        generalize tabG pkD (towD lo ul c0) up c = T at *
        generalize towD lo ul c0 = TW at *
        generalize D.lst ((mems up).map tuI) = ML at *
        generalize D.lst ((towE lo ul).map pkD) = TL at *
        generalize cG pkD up c = C at *
        generalize tuI up = U at *
        simp [law_s14, show notN .non .non = .ok (.bl false) from rfl]) ?_
      refine seq_nx (r1 := Z14 ns lo ul c0 up (.sh (cG pkD up c)) s6 b7 a9 a10 b11 a12 a13 (.sh .non) (.sh (tabG pkD (towD lo ul c0) up c)) .un) (by
        unfold Z14 E14
        generalize hG : grd lo ul c0 = G at *
        generalize tabG pkD (towD lo ul c0) up c = T at *
        generalize towD lo ul c0 = TW at *
        generalize D.lst ((mems up).map tuI) = ML at *
        generalize D.lst ((towE lo ul).map pkD) = TL at *
        generalize cG pkD up c = C at *
        generalize orT (break2G up c) = O2 at *
        generalize tuI up = U at *
        simp [law_s15, frzAt, freeze, mc, cr, nec, b2, tq2, ne2]) ?_
      refine seq_nx (r1 := Z14 ns lo ul c0 up (.sh (cG pkD up c)) s6 b7 a9 a10 b11 a12 a13 (.sh .non) (.sh (tabG pkD (towD lo ul c0) up c)) (.sh (orT (break3G (putT lo ul c0) up c)))) (by
        unfold Z14 E14
        generalize hG : grd lo ul c0 = G at *
        generalize tabG pkD (towD lo ul c0) up c = T at *
        generalize towD lo ul c0 = TW at *
        generalize D.lst ((mems up).map tuI) = ML at *
        generalize D.lst ((towE lo ul).map pkD) = TL at *
        generalize cG pkD up c = C at *
        generalize orT (break3G (putT lo ul c0) up c) = O3 at *
        generalize tuI up = U at *
        simp [law_s16, frzAt, freeze, qb]) ?_
      unfold Z14 E14
      clear e6 e8 e9 e11
      generalize grd lo ul c0 = G at *
      generalize tabG pkD (towD lo ul c0) up c = T at *
      generalize towD lo ul c0 = TW at *
      generalize (((towE lo ul).length : Nat) : Int) = n1 at *
      generalize (((mems up).length : Nat) : Int) = n2 at *
      generalize (((allG (towE lo ul) up).length : Nat) : Int) = n3 at *
      generalize D.lst ((mems up).map tuI) = ML at *
      generalize D.lst ((towE lo ul).map pkD) = TL at *
      generalize cG pkD up c = C at *
      generalize orT (break3G (putT lo ul c0) up c) = O3 at *
      simp [-lenD, law_s17, b3, eq3, ln1, ln2, ml, rt]
end Mir.K14
open PySem PySem.W PyProof.Rows
theorem PySem.Challenge.cw_carrytower_k14_tables_over_towers_holds : PySem.Challenge.rw_carrytower_k14_tables_over_towers.Holds := by
  w_on; o_law; k_head; (case hw => w_witness2)
  k_fill
  refine Mir.walk_mir (l := PySem.Challenge.rw_carrytower_k14_tables_over_towers) (k := 10) (x := "_law_script") (g := Mir.K14.d_law) rfl rfl ⟨rfl, by decide, by decide⟩ (fun w h Y => by first | exact PySem.W.kIn_of Y | exact PySem.W.km_in_of Y) Mir.K14.law_ok ?F
  case F =>
    intro w mg fa h KX G hmg
    refine' Mir.K14.all_mk KX G hmg ?aC_CarryError ?aC_NoRounds ?aC_NoElement ?aC_NoLower ?aC_NoUpper ?aC_NoCarry ?aC_NoTower ?aC_Group ?aC_Rounds ?aC_Table ?aC_Tower ?a_q_rounds ?l_q_rounds ?c_q_rounds ?k_q_rounds ?a_q_cell ?l_q_cell ?c_q_cell ?k_q_cell ?a_q_members ?l_q_members ?c_q_members ?k_q_members ?a_q_element ?l_q_element ?c_q_element ?k_q_element ?a_q_added ?l_q_added ?c_q_added ?k_q_added ?a_q_times ?l_q_times ?c_q_times ?k_q_times ?a_q_table ?l_q_table ?c_q_table ?k_q_table ?a_q_paired ?l_q_paired ?c_q_paired ?k_q_paired ?a_q_gcd ?l_q_gcd ?c_q_gcd ?k_q_gcd ?a_q_odd_element ?l_q_odd_element ?c_q_odd_element ?k_q_odd_element ?a_q_ground ?l_q_ground ?c_q_ground ?k_q_ground ?a_Rounds_members ?l_Rounds_members ?c_Rounds_members ?k_Rounds_members ?i_Rounds_members ?a_Tower_members ?l_Tower_members ?c_Tower_members ?k_Tower_members ?i_Tower_members ?a_is_whole ?l_is_whole ?c_is_whole ?k_is_whole ?a_Rounds_has ?l_Rounds_has ?c_Rounds_has ?k_Rounds_has ?i_Rounds_has ?a_Group_look_at ?l_Group_look_at ?c_Group_look_at ?k_Group_look_at ?i_Group_look_at ?a_Rounds_put ?l_Rounds_put ?c_Rounds_put ?k_Rounds_put ?i_Rounds_put ?a_Group_added ?l_Group_added ?c_Group_added ?k_Group_added ?i_Group_added ?a_Tower_has ?l_Tower_has ?c_Tower_has ?k_Tower_has ?i_Tower_has ?a_Table_carry ?l_Table_carry ?c_Table_carry ?k_Table_carry ?i_Table_carry ?a_Tower_put ?l_Tower_put ?c_Tower_put ?k_Tower_put ?i_Tower_put ?a_break_of_three ?l_break_of_three ?c_break_of_three ?k_break_of_three ?a_NoTower_init ?l_NoTower_init ?c_NoTower_init ?k_NoTower_init ?a_Rounds_nought ?l_Rounds_nought ?c_Rounds_nought ?k_Rounds_nought ?i_Rounds_nought ?a_Tower_init ?l_Tower_init ?c_Tower_init ?k_Tower_init ?i_Tower_init ?a_Group_size ?l_Group_size ?c_Group_size ?k_Group_size ?i_Group_size ?a_Rounds_is_even ?l_Rounds_is_even ?c_Rounds_is_even ?k_Rounds_is_even ?i_Rounds_is_even ?a_break_of_two ?l_break_of_two ?c_break_of_two ?k_break_of_two ?a_Tower_is_even ?l_Tower_is_even ?c_Tower_is_even ?k_Tower_is_even ?i_Tower_is_even ?a_look_at_groups ?l_look_at_groups ?c_look_at_groups ?k_look_at_groups ?a_NoCarry_init ?l_NoCarry_init ?c_NoCarry_init ?k_NoCarry_init ?a_Table_init ?l_Table_init ?c_Table_init ?k_Table_init ?i_Table_init ?a_are_rounds ?l_are_rounds ?c_are_rounds ?k_are_rounds ?a_Rounds_init ?l_Rounds_init ?c_Rounds_init ?k_Rounds_init ?i_Rounds_init ?a_q_whole ?l_q_whole ?c_q_whole ?k_q_whole ?a_q_has ?l_q_has ?c_q_has ?k_q_has ?a_q_two ?l_q_two ?c_q_two ?k_q_two ?a_q_asked ?l_q_asked ?c_q_asked ?k_q_asked ?a_Table_carries ?l_Table_carries ?c_Table_carries ?k_Table_carries ?i_Table_carries ?a_q_put ?l_q_put ?c_q_put ?k_q_put ?a_q_broken ?l_q_broken ?c_q_broken ?k_q_broken ?a_q_tower_right ?l_q_tower_right ?c_q_tower_right ?k_q_tower_right ?a_law ?l_law ?c_law ?k_law ?z_range ?z_min ?z_tuple ?z_len ?z_sum ?z_enumerate ?fl_lower ?fl_upper ?fl_rounds ?fl_table ?z_isinstance ?z_zip ?z_int ?z_bool ?ob_NoElement ?fl_kept ?xL_NoTower ?rv_NoTower ?ob_NoTower ?tI_NoTower ?no_NoTower_three ?fl_ground ?z_MOST_LOWER ?ob_NoLower ?z_MOST_UPPER ?ob_NoUpper ?xL_NoCarry ?rv_NoCarry ?ob_NoCarry ?tI_NoCarry ?no_NoCarry_y ?no_NoCarry_x ?z_list ?z_MOST_ROUNDS ?z_MOST_ELEMENTS ?ob_NoRounds ?z_all ?xl_x ?xl_y ?z_dict ?xl_three ?hIs ?hCt ?mk_Rounds ?kc_Rounds ?mk_Tower ?kc_Tower ?mk_Table ?kc_Table ?am_Rounds_look_at ?am_Tower_look_at ?am_Rounds_added ?am_Tower_added ?am_Rounds_size ?am_Tower_size ?oB
    (case aC_CarryError => k_is)
    (case aC_NoRounds => k_is)
    (case aC_NoElement => k_is)
    (case aC_NoLower => k_is)
    (case aC_NoUpper => k_is)
    (case aC_NoCarry => k_is)
    (case aC_NoTower => k_is)
    (case aC_Group => k_is)
    (case aC_Rounds => k_is)
    (case aC_Table => k_is)
    (case aC_Tower => k_is)
    (case a_q_rounds => k_is)
    (case l_q_rounds => k_is)
    (case c_q_rounds => k_is)
    (case k_q_rounds => k_is)
    (case a_q_cell => k_is)
    (case l_q_cell => k_is)
    (case c_q_cell => k_is)
    (case k_q_cell => k_is)
    (case a_q_members => k_is)
    (case l_q_members => k_is)
    (case c_q_members => k_is)
    (case k_q_members => k_is)
    (case a_q_element => k_is)
    (case l_q_element => k_is)
    (case c_q_element => k_is)
    (case k_q_element => k_is)
    (case a_q_added => k_is)
    (case l_q_added => k_is)
    (case c_q_added => k_is)
    (case k_q_added => k_is)
    (case a_q_times => k_is)
    (case l_q_times => k_is)
    (case c_q_times => k_is)
    (case k_q_times => k_is)
    (case a_q_table => k_is)
    (case l_q_table => k_is)
    (case c_q_table => k_is)
    (case k_q_table => k_is)
    (case a_q_paired => k_is)
    (case l_q_paired => k_is)
    (case c_q_paired => k_is)
    (case k_q_paired => k_is)
    (case a_q_gcd => k_is)
    (case l_q_gcd => k_is)
    (case c_q_gcd => k_is)
    (case k_q_gcd => k_is)
    (case a_q_odd_element => k_is)
    (case l_q_odd_element => k_is)
    (case c_q_odd_element => k_is)
    (case k_q_odd_element => k_is)
    (case a_q_ground => k_is)
    (case l_q_ground => k_is)
    (case c_q_ground => k_is)
    (case k_q_ground => k_is)
    (case a_Rounds_members => k_is)
    (case l_Rounds_members => k_is)
    (case c_Rounds_members => k_is)
    (case k_Rounds_members => k_is)
    (case i_Rounds_members => k_is)
    (case a_Tower_members => k_is)
    (case l_Tower_members => k_is)
    (case c_Tower_members => k_is)
    (case k_Tower_members => k_is)
    (case i_Tower_members => k_is)
    (case a_is_whole => k_is)
    (case l_is_whole => k_is)
    (case c_is_whole => k_is)
    (case k_is_whole => k_is)
    (case a_Rounds_has => k_is)
    (case l_Rounds_has => k_is)
    (case c_Rounds_has => k_is)
    (case k_Rounds_has => k_is)
    (case i_Rounds_has => k_is)
    (case a_Group_look_at => k_is)
    (case l_Group_look_at => k_is)
    (case c_Group_look_at => k_is)
    (case k_Group_look_at => k_is)
    (case i_Group_look_at => k_is)
    (case a_Rounds_put => k_is)
    (case l_Rounds_put => k_is)
    (case c_Rounds_put => k_is)
    (case k_Rounds_put => k_is)
    (case i_Rounds_put => k_is)
    (case a_Group_added => k_is)
    (case l_Group_added => k_is)
    (case c_Group_added => k_is)
    (case k_Group_added => k_is)
    (case i_Group_added => k_is)
    (case a_Tower_has => k_is)
    (case l_Tower_has => k_is)
    (case c_Tower_has => k_is)
    (case k_Tower_has => k_is)
    (case i_Tower_has => k_is)
    (case a_Table_carry => k_is)
    (case l_Table_carry => k_is)
    (case c_Table_carry => k_is)
    (case k_Table_carry => k_is)
    (case i_Table_carry => k_is)
    (case a_Tower_put => k_is)
    (case l_Tower_put => k_is)
    (case c_Tower_put => k_is)
    (case k_Tower_put => k_is)
    (case i_Tower_put => k_is)
    (case a_break_of_three => k_is)
    (case l_break_of_three => k_is)
    (case c_break_of_three => k_is)
    (case k_break_of_three => k_is)
    (case a_NoTower_init => k_is)
    (case l_NoTower_init => k_is)
    (case c_NoTower_init => k_is)
    (case k_NoTower_init => k_is)
    (case a_Rounds_nought => k_is)
    (case l_Rounds_nought => k_is)
    (case c_Rounds_nought => k_is)
    (case k_Rounds_nought => k_is)
    (case i_Rounds_nought => k_is)
    (case a_Tower_init => k_is)
    (case l_Tower_init => k_is)
    (case c_Tower_init => k_is)
    (case k_Tower_init => k_is)
    (case i_Tower_init => k_is)
    (case a_Group_size => k_is)
    (case l_Group_size => k_is)
    (case c_Group_size => k_is)
    (case k_Group_size => k_is)
    (case i_Group_size => k_is)
    (case a_Rounds_is_even => k_is)
    (case l_Rounds_is_even => k_is)
    (case c_Rounds_is_even => k_is)
    (case k_Rounds_is_even => k_is)
    (case i_Rounds_is_even => k_is)
    (case a_break_of_two => k_is)
    (case l_break_of_two => k_is)
    (case c_break_of_two => k_is)
    (case k_break_of_two => k_is)
    (case a_Tower_is_even => k_is)
    (case l_Tower_is_even => k_is)
    (case c_Tower_is_even => k_is)
    (case k_Tower_is_even => k_is)
    (case i_Tower_is_even => k_is)
    (case a_look_at_groups => k_is)
    (case l_look_at_groups => k_is)
    (case c_look_at_groups => k_is)
    (case k_look_at_groups => k_is)
    (case a_NoCarry_init => k_is)
    (case l_NoCarry_init => k_is)
    (case c_NoCarry_init => k_is)
    (case k_NoCarry_init => k_is)
    (case a_Table_init => k_is)
    (case l_Table_init => k_is)
    (case c_Table_init => k_is)
    (case k_Table_init => k_is)
    (case i_Table_init => k_is)
    (case a_are_rounds => k_is)
    (case l_are_rounds => k_is)
    (case c_are_rounds => k_is)
    (case k_are_rounds => k_is)
    (case a_Rounds_init => k_is)
    (case l_Rounds_init => k_is)
    (case c_Rounds_init => k_is)
    (case k_Rounds_init => k_is)
    (case i_Rounds_init => k_is)
    (case a_q_whole => k_is)
    (case l_q_whole => k_is)
    (case c_q_whole => k_is)
    (case k_q_whole => k_is)
    (case a_q_has => k_is)
    (case l_q_has => k_is)
    (case c_q_has => k_is)
    (case k_q_has => k_is)
    (case a_q_two => k_is)
    (case l_q_two => k_is)
    (case c_q_two => k_is)
    (case k_q_two => k_is)
    (case a_q_asked => k_is)
    (case l_q_asked => k_is)
    (case c_q_asked => k_is)
    (case k_q_asked => k_is)
    (case a_Table_carries => k_is)
    (case l_Table_carries => k_is)
    (case c_Table_carries => k_is)
    (case k_Table_carries => k_is)
    (case i_Table_carries => k_is)
    (case a_q_put => k_is)
    (case l_q_put => k_is)
    (case c_q_put => k_is)
    (case k_q_put => k_is)
    (case a_q_broken => k_is)
    (case l_q_broken => k_is)
    (case c_q_broken => k_is)
    (case k_q_broken => k_is)
    (case a_q_tower_right => k_is)
    (case l_q_tower_right => k_is)
    (case c_q_tower_right => k_is)
    (case k_q_tower_right => k_is)
    (case a_law => k_is)
    (case l_law => k_is)
    (case c_law => k_is)
    (case k_law => k_is)
    (case z_range => k_is)
    (case z_min => k_is)
    (case z_tuple => k_is)
    (case z_len => k_is)
    (case z_sum => k_is)
    (case z_enumerate => k_is)
    (case fl_lower => kernel_rfl)
    (case fl_upper => kernel_rfl)
    (case fl_rounds => kernel_rfl)
    (case fl_table => kernel_rfl)
    (case z_isinstance => k_is)
    (case z_zip => k_is)
    (case z_int => k_is)
    (case z_bool => k_is)
    (case ob_NoElement => kernel_rfl)
    (case fl_kept => kernel_rfl)
    (case xL_NoTower => k_is)
    (case rv_NoTower => decide +kernel)
    (case ob_NoTower => kernel_rfl)
    (case tI_NoTower => k_is)
    (case no_NoTower_three => k_is)
    (case fl_ground => kernel_rfl)
    (case z_MOST_LOWER => k_is)
    (case ob_NoLower => kernel_rfl)
    (case z_MOST_UPPER => k_is)
    (case ob_NoUpper => kernel_rfl)
    (case xL_NoCarry => k_is)
    (case rv_NoCarry => decide +kernel)
    (case ob_NoCarry => kernel_rfl)
    (case tI_NoCarry => k_is)
    (case no_NoCarry_y => k_is)
    (case no_NoCarry_x => k_is)
    (case z_list => k_is)
    (case z_MOST_ROUNDS => k_is)
    (case z_MOST_ELEMENTS => k_is)
    (case ob_NoRounds => kernel_rfl)
    (case z_all => k_is)
    (case xl_x => kernel_rfl)
    (case xl_y => kernel_rfl)
    (case z_dict => k_is)
    (case xl_three => kernel_rfl)
    (case hIs => kernel_rfl)
    (case hCt => kernel_rfl)
    (case mk_Rounds => k_is)
    (case kc_Rounds => k_is)
    (case mk_Tower => k_is)
    (case kc_Tower => k_is)
    (case mk_Table => k_is)
    (case kc_Table => k_is)
    (case am_Rounds_look_at => k_is)
    (case am_Tower_look_at => k_is)
    (case am_Rounds_added => k_is)
    (case am_Tower_added => k_is)
    (case am_Rounds_size => k_is)
    (case am_Tower_size => k_is)
    (case oB => kernel_rfl)
