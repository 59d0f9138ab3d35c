import PyProof.Rows.All
import Wide.All
import OpenK.AllK
import Wide.FinOn
import HandS.ForMost
import HandS.Lambda
import HandS.ForExc
import HandS.IsInst
import KE.KDictKeyed
import HandS.CallSlots
import HandS.ExcInit
import HandS.Small
import HandS.TupAny
import HandS.TupMul
import HandS.Wide
import HandS.Deep
import HandS.Style
import HandS.Conv
import HandS.ExcIs
import HandS.Walk
import KE.KExcIs
import HandS.TupLen
import HandS.ExcValue
import HandS.ExcField
import HandS.TryMany
import HandS.EndTab
import HandS.Zip
import KE.KDictOf
import KE.KEqDict
import PyProof.EnumMake
import PyProof.Draws
import KE.KDictDisplayH
import PyProof.DictDisplay
import HandS.SortOrd
import HandS.NamedTupSort
import KE.KDictSum
import KE.KDictCopyH
import KE.KDictZip
import HandS.Rev
import HandS.Nested
import KE.SortData
import KE.KEqNest
import HandS.TryOnly
import HandS.Sort
import HandS.Text
import HandS.More
import PySem.Challenge.RW_carrytower_k13_table_texts_refused
set_option Elab.async false
set_option linter.all false
set_option maxRecDepth 100000
namespace Mir
open PySem PySem.Spec PyProof.Rows L2
/-- data -/
inductive D where
  | non | bl (b : Bool) | int (i : Int) | str (s : Str)
  | tup (xs : List D) | lst (xs : List D)
  | scr (ns : List Int)
  | dic (ks : List D) (vs : List D)
  | obj (c : Nat) (vs : List D)
  | exc (c : Nat) (vs : List D)
  | cls (c : Nat) | ty (n : String)
  deriving Inhabited
/-- the classes by numbers: their names, their attributes in order -/
def cname : Nat → Str
  | 0 => "Rounds" | 1 => "Tower" | 2 => "Table" | 3 => "Map" | 4 => "Desk" | 5 => "Group"
  | 10 => "CarryError" | 11 => "NoRounds" | 12 => "NoElement" | 13 => "NoLower" | 14 => "NoUpper" | 15 => "NoHead" | 16 => "NotLike" | 17 => "NoCount" | 18 => "NoPair"
  | 19 => "NoKind" | 20 => "NoLine" | 21 => "NothingDone" | 22 => "NoText" | 23 => "NoCarry" | 24 => "NoTower" | 25 => "Uneven" | 26 => "NoRelabeling" | 27 => "TooMany" | 28 => "NoMap" | 29 => "NoName"
  | _ => ""
def cflds : Nat → List Str
  | 0 => ["rounds"] | 1 => ["table", "ground"] | 2 => ["lower", "upper", "kept"] | 3 => ["source", "goal", "images"] | 4 => ["kept", "past"]
  | 22 => ["at"] | 23 => ["y", "x"] | 24 => ["three"] | 25 => ["two"] | 26 => ["x"] | 27 => ["many"] | 28 => ["head"] | 29 => ["name"]
  | _ => []
inductive Res (α : Type) where
  | ok (a : α) | er (e : D) | bad
@[inline] def Res.bind {α β : Type} (r : Res α) (f : α → Res β) : Res β := match r with
  | .ok a => f a
  | .er e => .er e
  | .bad => .bad
instance : Monad Res where
  pure := .ok
  bind := Res.bind
@[simp] theorem ok_bind {α β : Type} (a : α) (f : α → Res β) : (Res.ok a >>= f) = f a := rfl
@[simp] theorem er_bind {α β : Type} (e : D) (f : α → Res β) : ((Res.er e : Res α) >>= f) = .er e := rfl
@[simp] theorem bad_bind {α β : Type} (f : α → Res β) : ((Res.bad : Res α) >>= f) = .bad := rfl
@[simp] theorem pure_ok {α : Type} (a : α) : (pure a : Res α) = .ok a := rfl
/-- the ground: what the module has written -/
structure GC where
  P : Program
  w : World
  K : PySem.W.Frag
  mg : Str → Option Value
/-- where the class stands -/
def GC.ca (G : GC) (c : Nat) : Addr := match G.mg (cname c) with
  | some (.ref C) => C
  | _ => 0
abbrev gOf (X : Cx) : GC := ⟨X.prog, X.w, X.K, X.mg⟩
/-- a datum as a key -/
def keyOf : D → Option NestedKey
  | .non => some .none
  | .bl b => some (.num (if b = true then 1 else 0))
  | .int i => some (.num i)
  | .str s => some (.text s)
  | .tup xs => (keysOf xs).map .tup
  | _ => none
where keysOf : List D → Option (List NestedKey)
  | [] => some []
  | x :: xs => match keyOf x, keysOf xs with
    | some k, some ks => some (k :: ks)
    | _, _ => none
/-- at a stands a dict with the entries' keys at addresses and values -/
structure DicO (G : GC) (o : Obj) (xs : List (NestedKey × Addr × Value)) : Prop where
  ex : o.ExactDict
  dat : ∃ es ep, o.data = .dict es ep ∧ es.toList = xs.map (entryOfKey (nestedKind G.P G.w))
  nd : (xs.map (·.1)).Nodup
  dp : ∀ x ∈ xs, x.1.depth ≤ 8
  sz : xs.length ≤ sizeLine
def isObj' (a : Addr) (o : Obj) : Heap → Prop := fun h => h.get? a = some o
def isExc (a : Addr) (C : Addr) (d : Option Addr) : Heap → Prop := fun h => ∃ oe vs, h.get? a = some oe ∧ oe.cls = .ref C ∧ oe.dict = d ∧ oe.data = .fields vs
mutual
/-- v bears d in F -/
inductive Rep (G : GC) (F : Hp) : V → D → Prop
  | non : Rep G F .non .non
  | bl (b : Bool) : Rep G F (.bl b) (.bl b)
  | int (i : Int) : Rep G F (.int i) (.int i)
  | str (s : Str) : Rep G F (.str s) (.str s)
  | tup {a : Addr} {vs : List V} {ds : List D} : SqT G.K F a vs → RepAll G F vs ds → Rep G F (.ref a) (.tup ds)
  | lst {a : Addr} {vs : List V} {ds : List D} : F a = some (.lst vs) → RepAll G F vs ds → Rep G F (.ref a) (.lst ds)
  | scr {a : Addr} {ns : List Int} : SqL G.K F a (ns.map V.int) → Rep G F (.ref a) (.scr ns)
  | dic {a : Addr} {o : Obj} {xs : List (NestedKey × Addr × Value)} {ws : List V} {ks vs : List D} : F a = some (.ext (isObj' a o)) → (a == sysModules) = false → DicO G o xs → Vals ws (xs.map (·.2.2)) →
      RepAll G F (xs.map fun x => V.ref x.2.1) ks → ks.map keyOf = xs.map (fun x => some x.1) → RepAll G F ws vs → Rep G F (.ref a) (.dic ks vs)
  | obj {a dx : Addr} {c : Nat} {ws : List V} {vs : List D} : F a = some (.ins (G.ca c) dx ((cflds c).zip ws)) → ws.length ≤ (cflds c).length → RepAll G F ws vs → Rep G F (.ref a) (.obj c vs)
  | exc {a : Addr} {c : Nat} : F a = some (.ext (isExc a (G.ca c) none)) → cflds c = [] → Rep G F (.ref a) (.exc c [])
  | excF {a dx : Addr} {c : Nat} {ws : List V} {vs : List D} : F a = some (.ext (isExc a (G.ca c) (some dx))) → F dx = some (.xd ((cflds c).zip ws)) → ws.length = (cflds c).length → RepAll G F ws vs → Rep G F (.ref a) (.exc c vs)
  | cls {C : Addr} {c : Nat} : G.mg (cname c) = some (.ref C) → Rep G F (.ref C) (.cls c)
  | ty (n : String) : Rep G F (.ty n) (.ty n)
inductive RepAll (G : GC) (F : Hp) : List V → List D → Prop
  | nil : RepAll G F [] []
  | cons {v : V} {d : D} {vs : List V} {ds : List D} : Rep G F v d → RepAll G F vs ds → RepAll G F (v :: vs) (d :: ds)
end
theorem Same.sqT {K : PySem.W.Frag} {H H' : Hp} {a : Addr} {xs : List V} (e : Same H H') (h : SqT K H a xs) : SqT K H' a xs := by
  rcases h with (h | ⟨o, h⟩) | h
  · exact .inl (.inl (e _ _ h))
  · exact .inl (.inr ⟨o, e _ _ h⟩)
  · exact .inr h
mutual
theorem Rep.mono {G : GC} {F F' : Hp} (s : Same F F') : ∀ {v : V} {d : D}, Rep G F v d → Rep G F' v d
  | _, _, .non => .non
  | _, _, .bl b => .bl b
  | _, _, .int i => .int i
  | _, _, .str x => .str x
  | _, _, .tup h r => .tup (Same.sqT s h) (RepAll.mono s r)
  | _, _, .lst h r => .lst (s _ _ h) (RepAll.mono s r)
  | _, _, .scr h => .scr (s.seq h)
  | _, _, .dic h1 h2 h3 h4 h5 h6 h7 => .dic (s _ _ h1) h2 h3 h4 (RepAll.mono s h5) h6 (RepAll.mono s h7)
  | _, _, .obj h z r => .obj (s _ _ h) z (RepAll.mono s r)
  | _, _, .exc h z => .exc (s _ _ h) z
  | _, _, .excF h1 h2 z r => .excF (s _ _ h1) (s _ _ h2) z (RepAll.mono s r)
  | _, _, .cls h => .cls h
  | _, _, .ty n => .ty n
theorem RepAll.mono {G : GC} {F F' : Hp} (s : Same F F') : ∀ {vs : List V} {ds : List D}, RepAll G F vs ds → RepAll G F' vs ds
  | _, _, .nil => .nil
  | _, _, .cons r t => .cons (Rep.mono s r) (RepAll.mono s t)
end
section
variable {G : GC} {F : Hp}
theorem RepAll.length : ∀ {vs : List V} {ds : List D}, RepAll G F vs ds → vs.length = ds.length
  | _, _, .nil => rfl
  | _, _, .cons _ t => congrArg (· + 1) (RepAll.length t)
theorem RepAll.get : ∀ {vs : List V} {ds : List D} {i : Nat} {d : D}, RepAll G F vs ds → ds[i]? = some d → ∃ v, vs[i]? = some v ∧ Rep G F v d
  | _, _, _, _, .nil, e => by simp at e
  | _, _, 0, _, .cons r _, e => by simp at e; subst e; exact ⟨_, rfl, r⟩
  | _, _, i + 1, d, .cons _ t, e => by
    obtain ⟨v, h1, h2⟩ := RepAll.get (i := i) (d := d) t (by simpa using e)
    exact ⟨v, by simpa using h1, h2⟩
theorem RepAll.getV : ∀ {vs : List V} {ds : List D} {i : Nat} {v : V}, RepAll G F vs ds → vs[i]? = some v → ∃ d, ds[i]? = some d ∧ Rep G F v d
  | _, _, _, _, .nil, e => by simp at e
  | _, _, 0, _, .cons r _, e => by simp at e; subst e; exact ⟨_, rfl, r⟩
  | _, _, i + 1, v, .cons _ t, e => by
    obtain ⟨d, h1, h2⟩ := RepAll.getV (i := i) (v := v) t (by simpa using e)
    exact ⟨d, by simpa using h1, h2⟩
theorem RepAll.append : ∀ {vs ws : List V} {ds es : List D}, RepAll G F vs ds → RepAll G F ws es → RepAll G F (vs ++ ws) (ds ++ es)
  | _, _, _, _, .nil, s => s
  | _, _, _, _, .cons r t, s => .cons r (RepAll.append t s)
theorem RepAll.set {v : V} {d : D} (r : Rep G F v d) : ∀ {vs : List V} {ds : List D} (i : Nat), RepAll G F vs ds → RepAll G F (vs.set i v) (ds.set i d)
  | _, _, _, .nil => .nil
  | _, _, 0, .cons _ t => .cons r t
  | _, _, i + 1, .cons q t => .cons q (RepAll.set r i t)
theorem RepAll.take : ∀ {vs : List V} {ds : List D} (n : Nat), RepAll G F vs ds → RepAll G F (vs.take n) (ds.take n)
  | _, _, 0, _ => .nil
  | _, _, _ + 1, .nil => .nil
  | _, _, n + 1, .cons r t => .cons r (RepAll.take n t)
theorem RepAll.drop : ∀ {vs : List V} {ds : List D} (n : Nat), RepAll G F vs ds → RepAll G F (vs.drop n) (ds.drop n)
  | _, _, 0, r => r
  | _, _, _ + 1, .nil => .nil
  | _, _, n + 1, .cons _ t => RepAll.drop n t
theorem RepAll.reverse : ∀ {vs : List V} {ds : List D}, RepAll G F vs ds → RepAll G F vs.reverse ds.reverse
  | _, _, .nil => .nil
  | _, _, .cons r t => by
    rw [List.reverse_cons, List.reverse_cons]
    exact RepAll.append (RepAll.reverse t) (.cons r .nil)
end
inductive Shape where
  | sh
  | flat
  | parts (l : List Shape)
  | opts (l : List Shape)
/-- the shape of the i-th part -/
def Shape.kid : Shape → Nat → Shape
  | .parts l, i => l.getD i .sh
  | .opts l, i => l.getD i .sh
  | _, _ => .sh
def Shape.pts : Shape → Bool
  | .parts _ => true
  | .opts _ => true
  | _ => false
def Shape.own : Shape → Bool
  | .sh => false
  | _ => true
mutual
/-- nothing that can be changed, at no depth -/
def soft : D → Bool
  | .non => true
  | .bl _ => true
  | .int _ => true
  | .str _ => true
  | .tup ds => softs ds
  | _ => false
def softs : List D → Bool
  | [] => true
  | d :: ds => soft d && softs ds
end
mutual
/-- v bears d, its own parts stand in H at A, the others in F -/
inductive Own (G : GC) (F H : Hp) : Shape → V → D → List Addr → Prop
  | sh {v : V} {d : D} : Rep G F v d → Own G F H .sh v d []
  | lst {s : Shape} {a : Addr} {vs : List V} {ds : List D} {A : List Addr} : s.own = true → H a = some (.lst vs) → F a = none → OwnAll G F H s.kid 0 vs ds A → a ∉ A → Own G F H s (.ref a) (.lst ds) (a :: A)
  | tup {s : Shape} {a : Addr} {vs : List V} {ds : List D} {A : List Addr} : s.pts = true → H a = some (.tup vs) → F a = none → OwnAll G F H s.kid 0 vs ds A → a ∉ A → Own G F H s (.ref a) (.tup ds) (a :: A)
  | dic {s : Shape} {a : Addr} {o : Obj} {xs : List (NestedKey × Addr × Value)} {ws : List V} {ks vs : List D} {A : List Addr} : s.own = true → H a = some (.ext (isObj' a o)) → F a = none → (a == sysModules) = false → DicO G o xs → Vals ws (xs.map (·.2.2)) →
      RepAll G F (xs.map fun x => V.ref x.2.1) ks → ks.map keyOf = xs.map (fun x => some x.1) → OwnAll G F H s.kid 0 ws vs A → a ∉ A → Own G F H s (.ref a) (.dic ks vs) (a :: A)
  | obj {s : Shape} {a dx : Addr} {c : Nat} {ws : List V} {vs : List D} {A : List Addr} : s.own = true → H a = some (.ins (G.ca c) dx ((cflds c).zip ws)) → F a = none → ws.length ≤ (cflds c).length → OwnAll G F H s.kid 0 ws vs A → a ∉ A →
      Own G F H s (.ref a) (.obj c vs) (a :: A)
  | opt {l : List Shape} {v : V} {ds : List D} : Rep G F v (.tup ds) → (∀ n d, ds[n]? = some d → ((Shape.opts l).kid n).own = true → soft d = true) → Own G F H (.opts l) v (.tup ds) []
inductive OwnAll (G : GC) (F H : Hp) : (Nat → Shape) → Nat → List V → List D → List Addr → Prop
  | nil {f : Nat → Shape} {n : Nat} : OwnAll G F H f n [] [] []
  | cons {f : Nat → Shape} {n : Nat} {v : V} {d : D} {vs : List V} {ds : List D} {A B : List Addr} : Own G F H (f n) v d A → OwnAll G F H f (n + 1) vs ds B → (∀ a ∈ A, a ∉ B) → OwnAll G F H f n (v :: vs) (d :: ds) (A ++ B)
end
/-- no code table -/
def Nt (o : HO) : Prop := ∀ ps, o ≠ .tbl ps
/-- the name that the code objects of a table bear -/
class Tn where
  q : Addr → Str
  l : List Addr
variable [Tn]
/-- a code object of the name q -/
def isCode (oc : Obj) (q : Str) : Prop := ∃ (vs : Array Value) (t : Tok), oc.data = .fields vs ∧ vs[1]? = some (.str q t)
abbrev frzO (o : Obj) : HO := .frz o (.ext fun _ => True)
/-- the table of code objects at P: each one that it tells is shared and bears its name -/
def TabF (F H : Hp) (P : Addr) : Prop :=
  F P = none ∧ ∃ ps : Array Value, H P = some (.tbl ps) ∧ TriplesOk ps.toList ∧ ∀ (pos : Pos) (cv : Value), codeAmong pos ps.toList = some cv → ∃ c oc, cv = .ref c ∧ F c = some (frzO oc) ∧ isCode oc (Tn.q P)
/-- all tables -/
def Tt (F H : Hp) : Prop := ∀ P ∈ Tn.l, TabF F H P
/-- no address is free any more that was not -/
def Fre (H H' : Hp) : Prop := ∀ a, H' a = none → H a = none
theorem _root_.L2.Same.fre {H H' : Hp} (s : Same H H') : Fre H H' := fun _ e => s.free e
theorem Fre.trans {H H1 H2 : Hp} (a : Fre H H1) (b : Fre H1 H2) : Fre H H2 := fun c e => a c (b c e)
/-- all but the tables of code objects stays; they grow -/
structure Stays (F H F' H' : Hp) : Prop where
  at' : ∀ a o, H a = some o → Nt o → H' a = some o
  tb : ∀ P ps, H P = some (.tbl ps) → ∃ ps', H' P = some (.tbl ps')
  tf : ∀ P, TabF F H P → TabF F' H' P
theorem Stays.tt {F H F' H' : Hp} (s : Stays F H F' H') (t : Tt F H) : Tt F' H' := fun P h => s.tf P (t P h)
section
variable {F H F' H' F1 H1 F2 H2 : Hp}
theorem Stays.at (s : Stays F H F' H') (a : Addr) (o : HO) (h : H a = some o) (n : Nt o := by intro _ z; cases z) : H' a = some o := s.at' a o h n
theorem Stays.fre (s : Stays F H F' H') : Fre H H' := fun a e => by
  cases q : H a with
  | none => rfl
  | some o =>
    by_cases h : ∃ ps, o = .tbl ps
    · obtain ⟨ps, rfl⟩ := h
      obtain ⟨ps', z⟩ := s.tb a ps q
      rw [e] at z; cases z
    · have := s.at' a o q fun ps z => h ⟨ps, z⟩
      rw [e] at this; cases this
theorem Stays.free (s : Stays F H F' H') {a : Addr} (e : H' a = none) : H a = none := s.fre a e
theorem Stays.of (h : Same H H') (f : Same F F') (n : ∀ a o, F' a = some o → F a = some o ∨ H a = none) : Stays F H F' H' where
  at' := fun a o e _ => h a o e
  tb := fun P ps e => ⟨ps, h P _ e⟩
  tf := fun P ⟨h0, ps, h1, h2, h3⟩ => by
    refine ⟨?_, ps, h P _ h1, h2, fun pos cv e => ?_⟩
    · cases e : F' P with
      | none => rfl
      | some o =>
        rcases n P o e with z | z
        · rw [h0] at z
          cases z
        · rw [h1] at z
          cases z
    · obtain ⟨c, oc, a, b, z⟩ := h3 pos cv e
      exact ⟨c, oc, a, f c _ b, z⟩
theorem Stays.refl : Stays F H F H := ⟨fun _ _ e _ => e, fun _ ps e => ⟨ps, e⟩, fun _ h => h⟩
theorem Stays.trans (a : Stays F H F1 H1) (b : Stays F1 H1 F2 H2) : Stays F H F2 H2 :=
  ⟨fun x o e n => b.at' x o (a.at' x o e n) n, fun P ps e => let ⟨ps1, e1⟩ := a.tb P ps e; b.tb P ps1 e1, fun P h => b.tf P (a.tf P h)⟩
/-- a new thing, or one's own, is written -/
theorem Stays.upd {x : Addr} {o : HO} (s : Stays F H F' H') (hx : H x = none) : Stays F H F' (upd H' x o) where
  at' := fun b u e n => by rw [upd_ne (ne_of_none e hx)]; exact s.at' b u e n
  tb := fun P ps e => by rw [upd_ne (ne_of_none e hx)]; exact s.tb P ps e
  tf := fun P h => by
    obtain ⟨_, _, e, _⟩ := id h
    obtain ⟨h0, ps, h1, h2⟩ := s.tf P h
    exact ⟨h0, ps, by rw [upd_ne (ne_of_none e hx)]; exact h1, h2⟩
end
/-- without the tables -/
def nT (H : Hp) : Hp := fun a => match H a with
  | some (.tbl _) => none
  | o => o
theorem nT_at {H : Hp} {a : Addr} {o : HO} (h : H a = some o) (n : Nt o := by intro _ z; cases z) : nT H a = some o := by
  unfold nT
  rw [h]
  cases o <;> first | rfl | exact absurd rfl (n _)
theorem nT_of {H : Hp} {a : Addr} {o : HO} (h : nT H a = some o) : H a = some o ∧ Nt o := by
  unfold nT at h
  split at h
  · cases h
  · rename_i q
    exact ⟨h, fun ps z => by subst z; exact q ps h⟩
theorem Stays.nT {F H F' H' : Hp} (s : Stays F H F' H') : Same (Mir.nT H) H' := fun a o e => s.at' a o (nT_of e).1 (nT_of e).2
theorem rd_nT {H : Hp} {a : Addr} {o : HO} (n : Nt o) (h : Rd H a o) : Rd (nT H) a o := by
  rcases h with h | ⟨u, h⟩
  · exact .inl (nT_at h n)
  · exact .inr ⟨u, nT_at h⟩
theorem sqL_nT {K : PySem.W.Frag} {H : Hp} {a : Addr} {xs : List V} (h : SqL K H a xs) : SqL K (nT H) a xs := h.imp (rd_nT (by intro _ z; cases z)) id
/-- what grows: the heap, the shared part; nothing old becomes shared -/
structure Grow (F H F' H' : Hp) : Prop where
  h : Stays F H F' H'
  f : Same F F'
  sub : Same F' H'
  new : ∀ a o, F' a = some o → F a = some o ∨ H a = none
theorem Grow.of {F H F' H' : Hp} (h : Same H H') (f : Same F F') (sub : Same F' H') (new : ∀ a o, F' a = some o → F a = some o ∨ H a = none) : Grow F H F' H' := ⟨.of h f new, f, sub, new⟩
theorem Grow.refl {F H : Hp} (s : Same F H) : Grow F H F H := ⟨Stays.refl, Same.refl _, s, fun _ _ e => .inl e⟩
theorem Grow.trans {F H F1 H1 F2 H2 : Hp} (a : Grow F H F1 H1) (b : Grow F1 H1 F2 H2) : Grow F H F2 H2 :=
  ⟨a.h.trans b.h, a.f.trans b.f, b.sub, fun x o e => (b.new x o e).elim (fun q => a.new x o q) fun q => .inr (a.h.free q)⟩
/-- what stays of the own parts -/
structure Keep (A : List Addr) (F H F' H' : Hp) : Prop where
  h : ∀ a ∈ A, ∀ o, H a = some o → H' a = some o
  f : Same F F'
  n : ∀ a ∈ A, F a = none → F' a = none
theorem Grow.keep {F H F' H' : Hp} (g : Grow F H F' H') {A : List Addr} (hA : ∀ a ∈ A, ∃ o, H a = some o) (hn : ∀ a ∈ A, ∀ ps, H a ≠ some (.tbl ps)) : Keep A F H F' H' :=
  ⟨fun a ha o e => g.h.at' a o e fun ps z => hn a ha ps (z ▸ e), g.f, fun a ha e => by
    cases q : F' a with
    | none => rfl
    | some o =>
      rcases g.new a o q with z | z
      · rw [e] at z; cases z
      · obtain ⟨o', e'⟩ := hA a ha
        rw [z] at e'; cases e'⟩
section
variable {G : GC} {F H F' H' : Hp}
mutual
theorem Own.keep : ∀ {s : Shape} {v : V} {d : D} {A : List Addr}, Own G F H s v d A → Keep A F H F' H' → Own G F' H' s v d A
  | _, _, _, _, .sh r, k => .sh (r.mono k.f)
  | _, _, _, _, .lst h0 h1 h2 h3 h4, k => .lst h0 (k.h _ List.mem_cons_self _ h1) (k.n _ List.mem_cons_self h2) (OwnAll.keep h3 ⟨fun a ha => k.h a (List.mem_cons_of_mem _ ha), k.f, fun a ha => k.n a (List.mem_cons_of_mem _ ha)⟩) h4
  | _, _, _, _, .tup h0 h1 h2 h3 h4, k => .tup h0 (k.h _ List.mem_cons_self _ h1) (k.n _ List.mem_cons_self h2) (OwnAll.keep h3 ⟨fun a ha => k.h a (List.mem_cons_of_mem _ ha), k.f, fun a ha => k.n a (List.mem_cons_of_mem _ ha)⟩) h4
  | _, _, _, _, .dic h0 h1 h2 z1 z2 z3 z4 z5 h3 h4, k => .dic h0 (k.h _ List.mem_cons_self _ h1) (k.n _ List.mem_cons_self h2) z1 z2 z3 (z4.mono k.f) z5 (OwnAll.keep h3 ⟨fun a ha => k.h a (List.mem_cons_of_mem _ ha), k.f, fun a ha => k.n a (List.mem_cons_of_mem _ ha)⟩) h4
  | _, _, _, _, .obj h0 h1 h2 z h3 h4, k => .obj h0 (k.h _ List.mem_cons_self _ h1) (k.n _ List.mem_cons_self h2) z (OwnAll.keep h3 ⟨fun a ha => k.h a (List.mem_cons_of_mem _ ha), k.f, fun a ha => k.n a (List.mem_cons_of_mem _ ha)⟩) h4
  | _, _, _, _, .opt r h, k => .opt (r.mono k.f) h
theorem OwnAll.keep : ∀ {f : Nat → Shape} {n : Nat} {vs : List V} {ds : List D} {A : List Addr}, OwnAll G F H f n vs ds A → Keep A F H F' H' → OwnAll G F' H' f n vs ds A
  | _, _, _, _, _, .nil, _ => .nil
  | _, _, _, _, _, .cons r t x, k => .cons (Own.keep r ⟨fun a ha => k.h a (List.mem_append_left _ ha), k.f, fun a ha => k.n a (List.mem_append_left _ ha)⟩)
      (OwnAll.keep t ⟨fun a ha => k.h a (List.mem_append_right _ ha), k.f, fun a ha => k.n a (List.mem_append_right _ ha)⟩) x
end
mutual
theorem Own.there : ∀ {s : Shape} {v : V} {d : D} {A : List Addr}, Own G F H s v d A → ∀ a ∈ A, F a = none ∧ ∃ o, H a = some o
  | _, _, _, _, .sh _, _, h => nomatch h
  | _, _, _, _, .lst _ h1 h2 h3 _, a, h => (List.mem_cons.mp h).elim (fun e => by subst e; exact ⟨h2, _, h1⟩) (OwnAll.there h3 a)
  | _, _, _, _, .tup _ h1 h2 h3 _, a, h => (List.mem_cons.mp h).elim (fun e => by subst e; exact ⟨h2, _, h1⟩) (OwnAll.there h3 a)
  | _, _, _, _, .dic _ h1 h2 _ _ _ _ _ h3 _, a, h => (List.mem_cons.mp h).elim (fun e => by subst e; exact ⟨h2, _, h1⟩) (OwnAll.there h3 a)
  | _, _, _, _, .obj _ h1 h2 _ h3 _, a, h => (List.mem_cons.mp h).elim (fun e => by subst e; exact ⟨h2, _, h1⟩) (OwnAll.there h3 a)
theorem OwnAll.there : ∀ {f : Nat → Shape} {n : Nat} {vs : List V} {ds : List D} {A : List Addr}, OwnAll G F H f n vs ds A → ∀ a ∈ A, F a = none ∧ ∃ o, H a = some o
  | _, _, _, _, _, .nil, _, h => nomatch h
  | _, _, _, _, _, .cons r t _, a, h => (List.mem_append.mp h).elim (Own.there r a) (OwnAll.there t a)
end
mutual
theorem Own.nt : ∀ {s : Shape} {v : V} {d : D} {A : List Addr}, Own G F H s v d A → ∀ a ∈ A, ∀ ps, H a ≠ some (.tbl ps)
  | _, _, _, _, .sh _, _, h => nomatch h
  | _, _, _, _, .lst _ h1 h2 h3 _, a, h => (List.mem_cons.mp h).elim (fun e ps z => by subst e; rw [h1] at z; cases z) (OwnAll.nt h3 a)
  | _, _, _, _, .tup _ h1 h2 h3 _, a, h => (List.mem_cons.mp h).elim (fun e ps z => by subst e; rw [h1] at z; cases z) (OwnAll.nt h3 a)
  | _, _, _, _, .dic _ h1 h2 _ _ _ _ _ h3 _, a, h => (List.mem_cons.mp h).elim (fun e ps z => by subst e; rw [h1] at z; cases z) (OwnAll.nt h3 a)
  | _, _, _, _, .obj _ h1 h2 _ h3 _, a, h => (List.mem_cons.mp h).elim (fun e ps z => by subst e; rw [h1] at z; cases z) (OwnAll.nt h3 a)
theorem OwnAll.nt : ∀ {f : Nat → Shape} {n : Nat} {vs : List V} {ds : List D} {A : List Addr}, OwnAll G F H f n vs ds A → ∀ a ∈ A, ∀ ps, H a ≠ some (.tbl ps)
  | _, _, _, _, _, .nil, _, h => nomatch h
  | _, _, _, _, _, .cons r t _, a, h => (List.mem_append.mp h).elim (Own.nt r a) (OwnAll.nt t a)
end
theorem Own.grow {s : Shape} {v : V} {d : D} {A : List Addr} (o : Own G F H s v d A) (g : Grow F H F' H') : Own G F' H' s v d A := o.keep (g.keep (fun a ha => (o.there a ha).2) o.nt)
/-- the own parts become shared -/
def share (F H : Hp) (A : List Addr) : Hp := fun b => if b ∈ A then H b else F b
theorem share_sub (s : Same F H) (A : List Addr) : Same (share F H A) H := fun b o e => by
  unfold share at e
  split at e
  · exact e
  · exact s b o e
theorem share_same (s : Same F H) (A : List Addr) : Same F (share F H A) := fun b o e => by
  unfold share
  split
  · exact s b o e
  · exact e
/-- .. and nothing else changes -/
theorem Stays.share {A : List Addr} (st : Stays F H F' H') (sub : Same F' H') (hn : ∀ a ∈ A, ∀ ps, H' a ≠ some (.tbl ps)) : Stays F H (share F' H' A) H' := ⟨st.at', st.tb, fun P h => by
  obtain ⟨h0, ps, h1, h2, h3⟩ := st.tf P h
  have hP : P ∉ A := fun z => hn P z ps h1
  refine ⟨by unfold Mir.share; rw [if_neg hP]; exact h0, ps, h1, h2, fun pos cv e => ?_⟩
  obtain ⟨c, oc, a, b, z⟩ := h3 pos cv e
  exact ⟨c, oc, a, share_same sub A c _ b, z⟩⟩
theorem share_at {A : List Addr} {a : Addr} (h : a ∈ A) : share F H A a = H a := if_pos h
theorem share_ne {A : List Addr} {a : Addr} (h : a ∉ A) : share F H A a = F a := if_neg h
mutual
theorem Own.rep (s : Same F H) : ∀ {sp : Shape} {v : V} {d : D} {A : List Addr}, Own G F H sp v d A → ∀ B : List Addr, (∀ a ∈ A, a ∈ B) → Rep G (share F H B) v d
  | _, _, _, _, .sh r, B, _ => r.mono (share_same s B)
  | _, _, _, _, .lst _ h1 _ h3 _, B, hB => .lst ((share_at (hB _ List.mem_cons_self)).trans h1) (OwnAll.rep s h3 B fun a ha => hB a (List.mem_cons_of_mem _ ha))
  | _, _, _, _, .tup _ h1 _ h3 _, B, hB => .tup (.of ((share_at (hB _ List.mem_cons_self)).trans h1)) (OwnAll.rep s h3 B fun a ha => hB a (List.mem_cons_of_mem _ ha))
  | _, _, _, _, .dic _ h1 _ z1 z2 z3 z4 z5 h3 _, B, hB => .dic ((share_at (hB _ List.mem_cons_self)).trans h1) z1 z2 z3 (z4.mono (share_same s B)) z5 (OwnAll.rep s h3 B fun a ha => hB a (List.mem_cons_of_mem _ ha))
  | _, _, _, _, .obj _ h1 _ z h3 _, B, hB => .obj ((share_at (hB _ List.mem_cons_self)).trans h1) z (OwnAll.rep s h3 B fun a ha => hB a (List.mem_cons_of_mem _ ha))
  | _, _, _, _, .opt r _, B, _ => r.mono (share_same s B)
theorem OwnAll.rep (s : Same F H) : ∀ {f : Nat → Shape} {n : Nat} {vs : List V} {ds : List D} {A : List Addr}, OwnAll G F H f n vs ds A → ∀ B : List Addr, (∀ a ∈ A, a ∈ B) → RepAll G (share F H B) vs ds
  | _, _, _, _, _, .nil, _, _ => .nil
  | _, _, _, _, _, .cons r t _, B, hB => .cons (Own.rep s r B fun a ha => hB a (List.mem_append_left _ ha)) (OwnAll.rep s t B fun a ha => hB a (List.mem_append_right _ ha))
end
theorem OwnAll.of_rep : ∀ {vs : List V} {ds : List D} {n : Nat}, RepAll G F vs ds → OwnAll G F H (fun _ => .sh) n vs ds []
  | _, _, _, .nil => .nil
  | _, _, _, .cons r t => OwnAll.cons (A := []) (B := []) (.sh r) (OwnAll.of_rep t) (fun _ z => nomatch z)
theorem OwnAll.to_rep : ∀ {vs : List V} {ds : List D} {n : Nat} {A : List Addr}, OwnAll G F H (fun _ => .sh) n vs ds A → A = [] ∧ RepAll G F vs ds
  | _, _, _, _, .nil => ⟨rfl, .nil⟩
  | _, _, _, _, .cons r t _ => by
    cases r with
    | sh r =>
      obtain ⟨e, t'⟩ := OwnAll.to_rep t
      subst e
      exact ⟨rfl, .cons r t'⟩
    | lst h => cases h
    | tup h => cases h
    | dic h => cases h
    | obj h => cases h
end
end Mir
namespace Mir
open PySem PySem.Spec PyProof.Rows L2
variable [Tn]
inductive Slot where
  | un | sh (d : D) | ow (s : Shape) (d : D)
abbrev Env := List Slot
/-- to be read: shared, or one's own with shared parts -/
def RdD (G : GC) (F H : Hp) (v : V) (d : D) : Prop := Rep G F v d ∨ ∃ A, Own G F H .flat v d A
def getS (i : Nat) (r : Env) : Res D := match r[i]? with
  | some (.sh d) => .ok d
  | _ => .bad
def getR (i : Nat) (r : Env) : Res D := match r[i]? with
  | some (.sh d) => .ok d
  | some (.ow .flat d) => .ok d
  | _ => .bad
def freeze (i : Nat) (r : Env) : Env := match r[i]? with
  | some (.ow _ d) => r.set i (.sh d)
  | _ => r
/-- what is wished of an exception; what stays true of the names' values -/
structure Wi where
  w : WX
  J : L2.St → Prop
/-- the state of a def: slots, heap; fp i: the addresses that the i-th name owns -/
structure MS (G : GC) (J : L2.St → Prop) (H0 F0 : Hp) (fp : Nat → List Addr) (F : Hp) (σ : L2.St) (H : Hp) (r : Env) : Prop where
  jo : J σ
  s0 : Stays F0 H0 F H
  f0 : Same F0 F
  sub : Same F H
  new : ∀ a o, F a = some o → F0 a = some o ∨ H0 a = none
  len : r.length = σ.length
  sh : ∀ (i : Nat) (d : D), r[i]? = some (.sh d) → ∃ v, σ[i]? = some (some v) ∧ Rep G F v d
  ow : ∀ (i : Nat) (s : Shape) (d : D), r[i]? = some (.ow s d) → (∃ v, σ[i]? = some (some v) ∧ Own G F H s v d (fp i)) ∧ ∀ a ∈ fp i, H0 a = none
  ap : ∀ (i j : Nat) (s t : Shape) (d e : D), i ≠ j → r[i]? = some (.ow s d) → r[j]? = some (.ow t e) → ∀ a ∈ fp i, a ∉ fp j
  t0 : Tt F0 H0
section
variable {G : GC} {J : L2.St → Prop} {H0 F0 F H F' H' : Hp} {fp : Nat → List Addr} {σ : L2.St} {r : Env}
theorem MS.grow (m : MS G J H0 F0 fp F σ H r) (g : Grow F H F' H') : MS G J H0 F0 fp F' σ H' r where
  jo := m.jo
  s0 := m.s0.trans g.h
  f0 := m.f0.trans g.f
  sub := g.sub
  new := fun a o e => (g.new a o e).elim (m.new a o) fun q => .inr (m.s0.free q)
  len := m.len
  sh := fun i d e => let ⟨v, h1, h2⟩ := m.sh i d e; ⟨v, h1, h2.mono g.f⟩
  ow := fun i s d e => let ⟨⟨v, h1, h2⟩, h3⟩ := m.ow i s d e; ⟨⟨v, h1, h2.grow g⟩, h3⟩
  ap := m.ap
  t0 := m.t0
theorem MS.tt (m : MS G J H0 F0 fp F σ H r) : Tt F H := m.s0.tt m.t0
theorem MS.getS (m : MS G J H0 F0 fp F σ H r) {i : Nat} {d : D} (h : getS i r = .ok d) : ∃ v, σ[i]? = some (some v) ∧ Rep G F v d := by
  unfold Mir.getS at h
  split at h
  · rename_i e; cases h; exact m.sh i _ e
  · cases h
theorem getS_not_er {i : Nat} {e : D} {r : Env} (h : Mir.getS i r = .er e) : False := by
  unfold Mir.getS at h
  split at h <;> cases h
theorem getR_not_er {i : Nat} {e : D} {r : Env} (h : Mir.getR i r = .er e) : False := by
  unfold Mir.getR at h
  split at h <;> cases h
theorem MS.getR (m : MS G J H0 F0 fp F σ H r) {i : Nat} {d : D} (h : getR i r = .ok d) : ∃ v, σ[i]? = some (some v) ∧ RdD G F H v d := by
  unfold Mir.getR at h
  split at h
  · rename_i e
    cases h
    obtain ⟨v, h1, h2⟩ := m.sh i _ e
    exact ⟨v, h1, .inl h2⟩
  · rename_i _ e
    cases h
    obtain ⟨⟨v, h1, h2⟩, _⟩ := m.ow i _ _ e
    exact ⟨v, h1, .inr ⟨_, h2⟩⟩
  · cases h
theorem get_set_slot {r : Env} {i j : Nat} {x y : Slot} (h : (r.set i x)[j]? = some y) : (i = j ∧ x = y ∧ i < r.length) ∨ (i ≠ j ∧ r[j]? = some y) := by
  by_cases e : i = j
  · subst e
    by_cases hl : i < r.length
    · rw [List.getElem?_set_self hl] at h
      exact .inl ⟨rfl, Option.some.inj h, hl⟩
    · rw [List.getElem?_eq_none (by simpa using hl)] at h
      cases h
  · rw [List.getElem?_set_ne e] at h
    exact .inr ⟨e, h⟩
/-- a shared value is put into the i-th name -/
theorem MS.setS (m : MS G J H0 F0 fp F σ H r) {v : V} {d : D} (i : Nat) (q : Rep G F v d) (hJ : ∀ σ v, J σ → J (σ.set i v)) : MS G J H0 F0 fp F (σ.set i (some v)) H (r.set i (.sh d)) where
  jo := hJ _ _ m.jo
  s0 := m.s0
  f0 := m.f0
  sub := m.sub
  new := m.new
  len := by simpa using m.len
  sh := fun j e h => by
    rcases get_set_slot h with ⟨rfl, x, hl⟩ | ⟨ne, h⟩
    · cases x
      exact ⟨v, List.getElem?_set_self (by rw [← m.len]; exact hl), q⟩
    · rw [List.getElem?_set_ne ne]
      exact m.sh j e h
  ow := fun j s e h => by
    rcases get_set_slot h with ⟨_, x, _⟩ | ⟨ne, h⟩
    · cases x
    · rw [List.getElem?_set_ne ne]
      exact m.ow j s e h
  ap := fun j k s t d e n h1 h2 => by
    rcases get_set_slot h1 with ⟨_, x, _⟩ | ⟨_, h1⟩
    · cases x
    · rcases get_set_slot h2 with ⟨_, x, _⟩ | ⟨_, h2⟩
      · cases x
      · exact m.ap j k s t d e n h1 h2
  t0 := m.t0
/-- an owned value is put into the i-th name -/
theorem MS.setO (m : MS G J H0 F0 fp F σ H r) {v : V} {d : D} {s : Shape} {A : List Addr} (i : Nat) (q : Own G F H s v d A) (hn : ∀ a ∈ A, H0 a = none) (hd : ∀ (j : Nat) (t : Shape) (e : D), j ≠ i → r[j]? = some (.ow t e) → ∀ a ∈ A, a ∉ fp j) (hJ : ∀ σ v, J σ → J (σ.set i v)) :
    MS G J H0 F0 (fun j => if j = i then A else fp j) F (σ.set i (some v)) H (r.set i (.ow s d)) where
  jo := hJ _ _ m.jo
  s0 := m.s0
  f0 := m.f0
  sub := m.sub
  new := m.new
  len := by simpa using m.len
  sh := fun j e h => by
    rcases get_set_slot h with ⟨_, x, _⟩ | ⟨ne, h⟩
    · cases x
    · rw [List.getElem?_set_ne ne]
      exact m.sh j e h
  ow := fun j s e h => by
    rcases get_set_slot h with ⟨rfl, x, hl⟩ | ⟨ne, h⟩
    · cases x
      rw [if_pos rfl]
      exact ⟨⟨v, List.getElem?_set_self (by rw [← m.len]; exact hl), q⟩, hn⟩
    · rw [List.getElem?_set_ne ne, if_neg (Ne.symm ne)]
      exact m.ow j s e h
  ap := fun j k s t d e n h1 h2 a => by
    rcases get_set_slot h1 with ⟨rfl, x, _⟩ | ⟨n1, h1⟩
    · rcases get_set_slot h2 with ⟨z, _, _⟩ | ⟨n2, h2⟩
      · exact absurd z n
      · cases x
        rw [if_pos rfl, if_neg (Ne.symm n2)]
        exact hd k t e (Ne.symm n2) h2 a
    · rcases get_set_slot h2 with ⟨rfl, x, _⟩ | ⟨n2, h2⟩
      · cases x
        rw [if_pos rfl, if_neg (Ne.symm n1)]
        exact fun ha hb => hd j s d (Ne.symm n1) h1 a hb ha
      · rw [if_neg (Ne.symm n1), if_neg (Ne.symm n2)]
        exact m.ap j k s t d e n h1 h2 a
  t0 := m.t0
/-- the i-th name's own parts become shared -/
theorem MS.freeze (m : MS G J H0 F0 fp F σ H r) (i : Nat) : ∃ F', Same F F' ∧ MS G J H0 F0 fp F' σ H (Mir.freeze i r) := by
  unfold Mir.freeze
  split
  · rename_i s d e
    obtain ⟨⟨v, h1, h2⟩, h3⟩ := m.ow i s d e
    refine ⟨share F H (fp i), share_same m.sub _, ?_⟩
    have hi : i < r.length := (List.getElem?_eq_some_iff.mp e).1
    refine ⟨m.jo, m.s0.share m.sub h2.nt, m.f0.trans (share_same m.sub _), share_sub m.sub _, fun a o q => ?_, by simpa using m.len, fun j e' h => ?_, fun j t e' h => ?_, fun j k t u d' e' n q1 q2 => ?_, m.t0⟩
    · by_cases ha : a ∈ fp i
      · exact .inr (h3 a ha)
      · rw [share_ne ha] at q
        exact m.new a o q
    · rcases get_set_slot h with ⟨rfl, x, hl⟩ | ⟨ne, h⟩
      · cases x
        exact ⟨v, h1, h2.rep m.sub _ fun _ z => z⟩
      · obtain ⟨w, q1, q2⟩ := m.sh j e' h
        exact ⟨w, q1, q2.mono (share_same m.sub _)⟩
    · rcases get_set_slot h with ⟨_, x, _⟩ | ⟨ne, h⟩
      · cases x
      · obtain ⟨⟨w, q1, q2⟩, q3⟩ := m.ow j t e' h
        refine ⟨⟨w, q1, q2.keep ⟨fun _ _ _ z => z, share_same m.sub _, fun a ha z => ?_⟩⟩, q3⟩
        rw [share_ne (m.ap j i t s e' d (Ne.symm ne) h e a ha)]
        exact z
    · rcases get_set_slot q1 with ⟨_, x, _⟩ | ⟨_, q1⟩
      · cases x
      · rcases get_set_slot q2 with ⟨_, x, _⟩ | ⟨_, q2⟩
        · cases x
        · exact m.ap j k t u d' e' n q1 q2
  · exact ⟨F, Same.refl _, m⟩
end
inductive Kd where
  | S | R
  | O (s : Shape)
/-- what may be read -/
def Kd.rd : Kd → Bool
  | .O (.parts _) => false
  | .O (.opts _) => false
  | _ => true
/-- v bears d: shared; to be read; one's own and new since H -/
def Kd.Rep (G : GC) (H F' H' : Hp) (v : V) (d : D) : Kd → Prop
  | .S => Mir.Rep G F' v d
  | .R => RdD G F' H' v d
  | .O s => ∃ A, Own G F' H' s v d A ∧ ∀ a ∈ A, H a = none
/-- an exception in the air is the datum e -/
def ExcIs (G : GC) (F : Hp) (cls : Value) (dd : Option Addr) (e : D) : Prop :=
  ∃ (c : Nat) (ws : List V) (vs : List D), e = .exc c vs ∧ cls = .ref (G.ca c) ∧ RepAll G F ws vs ∧
    ((dd = none ∧ cflds c = [] ∧ ws = []) ∨ ∃ dx, dd = some dx ∧ F dx = some (.xd ((cflds c).zip ws)) ∧ ws.length = (cflds c).length)
/-- what is due of an answer: behind it P; of an exception: the wish -/
def Out (G : GC) (W : Wi) (σ : L2.St) {α : Type} (F H : Hp) (P : Hp → Hp → α → Prop) : Res α → Prop
  | .ok a => ∀ F' H', Grow F H F' H' → P F' H' a
  | .er e => ∀ cls dd F' H', Grow F H F' H' → ExcIs G F' cls dd e → W.w cls dd σ H'
  | .bad => False
/-- the reading of an expression of worth f -/
def tE (G : GC) (W : Wi) (k : Kd) (f : Env → Res D) : TE := fun σ H Q => ∃ H0 F0 fp F r, MS G W.J H0 F0 fp F σ H r ∧ Out G W σ F H (fun F' H' d => ∀ v, k.Rep G H F' H' v d → Q v H') (f r)
def tT (G : GC) (W : Wi) (f : Env → Res Bool) : TT := fun σ H Q => ∃ H0 F0 fp F r, MS G W.J H0 F0 fp F σ H r ∧ Out G W σ F H (fun F' H' b => Q b H') (f r)
def tA (G : GC) (W : Wi) (f : Env → Res (List D)) : TA := fun σ H Q => ∃ H0 F0 fp F r, MS G W.J H0 F0 fp F σ H r ∧ Out G W σ F H (fun F' H' ds => ∀ vs, RepAll G F' vs ds → Q vs H') (f r)
abbrev RE (X : Cx) (W : Wi) (k : Kd) (e : Expr) (f : Env → Res D) : Prop := PE X e (tE (gOf X) W k f)
abbrev RT (X : Cx) (W : Wi) (e : Expr) (f : Env → Res Bool) : Prop := PT X e (tT (gOf X) W f)
abbrev RA (X : Cx) (W : Wi) (es : List Expr) (f : Env → Res (List D)) : Prop := PA X es (tA (gOf X) W f)
theorem _root_.L2.PE.imp {X : Cx} {e : Expr} {t t' : TE} (h : PE X e t) (i : ∀ σ H Q, t' σ H Q → t σ H Q) : PE X e t' := ⟨fun pins s σ H Q I hw => h.run pins s σ H Q I (i σ H Q hw)⟩
theorem _root_.L2.PT.imp {X : Cx} {e : Expr} {t t' : TT} (h : PT X e t) (i : ∀ σ H Q, t' σ H Q → t σ H Q) : PT X e t' := ⟨fun pins s σ H Q I hw => h.run pins s σ H Q I (i σ H Q hw)⟩
theorem _root_.L2.PW.imp {X : Cx} {e : Expr} {t t' : TT} (h : PW X e t) (i : ∀ σ H Q, t' σ H Q → t σ H Q) : PW X e t' := ⟨fun wh pins s σ H Q I hw => h.run wh pins s σ H Q I (i σ H Q hw)⟩
theorem _root_.L2.PA.imp {X : Cx} {e : List Expr} {t t' : TA} (h : PA X e t) (i : ∀ σ H Q, t' σ H Q → t σ H Q) : PA X e t' := ⟨fun pos pins s σ H Q I hw => h.run pos pins s σ H Q I (i σ H Q hw)⟩
theorem _root_.L2.PS.imp {X : Cx} {e : Stmt} {t t' : TS} (h : PS X e t) (i : ∀ D σ H, t' D σ H → t D σ H) : PS X e t' := ⟨fun pins s σ H D I hw => h.run pins s σ H D I (i D σ H hw)⟩
theorem _root_.L2.PSs.imp {X : Cx} {e : List Stmt} {t t' : TS} (h : PSs X e t) (i : ∀ D σ H, t' D σ H → t D σ H) : PSs X e t' := ⟨fun pins s σ H D I hw => h.run pins s σ H D I (i D σ H hw)⟩
section
variable {G : GC} {J : L2.St → Prop} {W : Wi} {k : Kd} {σ : L2.St} {H F H1 F1 : Hp} {H0 F0 : Hp} {fp : Nat → List Addr} {r : Env} {α β : Type}
theorem Kd.R_of {k : Kd} {H F' H' : Hp} {v : V} {d : D} (hk : k.rd = true) (h : k.Rep G H F' H' v d) : Kd.R.Rep G H F' H' v d := by
  cases k with
  | S => exact Or.inl h
  | R => exact h
  | O s =>
    obtain ⟨A, ow, _⟩ := h
    cases s with
    | sh =>
      cases ow with
      | sh r => exact Or.inl r
      | lst h => cases h
      | tup h => cases h
      | dic h => cases h
      | obj h => cases h
    | flat => exact Or.inr ⟨A, ow⟩
    | parts l => cases hk
    | opts l => cases hk
theorem Kd.Rep.later (s : Fre H H1) : ∀ {k : Kd} {F' H' : Hp} {v : V} {d : D}, k.Rep G H1 F' H' v d → k.Rep G H F' H' v d
  | .S, _, _, _, _, h => h
  | .R, _, _, _, _, h => h
  | .O _, _, _, _, _, ⟨A, h, n⟩ => ⟨A, h, fun a ha => s a (n a ha)⟩
/-- it stays while the heap grows -/
theorem Kd.Rep.grow {H F1 H1 F2 H2 : Hp} (g : Grow F1 H1 F2 H2) : ∀ {k : Kd} {v : V} {d : D}, k.Rep G H F1 H1 v d → k.Rep G H F2 H2 v d
  | .S, _, _, h => Mir.Rep.mono g.f h
  | .R, _, _, .inl h => .inl (Mir.Rep.mono g.f h)
  | .R, _, _, .inr ⟨A, h⟩ => .inr ⟨A, h.grow g⟩
  | .O _, _, _, ⟨A, h, n⟩ => ⟨A, h.grow g, n⟩
theorem Out.grow {P : Hp → Hp → α → Prop} {x : Res α} (h : Out G W σ F H P x) (g : Grow F H F1 H1) : Out G W σ F1 H1 P x := by
  cases x with
  | ok a => exact fun F' H' q => h F' H' (g.trans q)
  | er e => exact fun cls dd F' H' q => h cls dd F' H' (g.trans q)
  | bad => exact h
theorem Out.imp {P P' : Hp → Hp → α → Prop} {x : Res α} (h : Out G W σ F H P x) (i : ∀ F' H' a, Grow F H F' H' → P F' H' a → P' F' H' a) : Out G W σ F H P' x := by
  cases x with
  | ok a => exact fun F' H' q => i F' H' a q (h F' H' q)
  | er e => exact h
  | bad => exact h
/-- behind the first of two -/
theorem Out.bind {P : Hp → Hp → β → Prop} {P1 : Hp → Hp → α → Prop} {x : Res α} {g : α → Res β} (h : Out G W σ F H P (x >>= g)) (i : ∀ F' H' a, Grow F H F' H' → Out G W σ F' H' P (g a) → P1 F' H' a) : Out G W σ F H P1 x := by
  cases x with
  | ok a => exact fun F' H' q => i F' H' a q (Out.grow h q)
  | er e => exact h
  | bad => exact h
theorem Out.val {P : Hp → Hp → α → Prop} {x : Res α} {a : α} (h : Out G W σ F H P x) (e : x = .ok a) (s : Same F H) : P F H a := by
  subst e
  exact h F H (Grow.refl s)
end
section
variable {X : Cx} {W : Wi}
theorem re_var (i : Nat) {x : Str} {pos : Pos} (hN : X.N[i]? = some x := by rfl) (hv : Vis X.env.scope x := by first | exact Or.inl rfl | exact Or.inr (Or.inl rfl) | exact Or.inr (Or.inr rfl)) (hd : (x == ("__debug__" : Str)) = false := by decide)
    (hcd : (x == ("__classdict__" : Str)) = false := by decide) : RE X W .S (.Name x pos) (getS i) := by
  refine (pe_var hN hv hd hcd).imp fun σ H Q ⟨H0, F0, fp, F, r, m, o⟩ => ?_
  cases e : getS i r with
  | ok d =>
    obtain ⟨v, h1, h2⟩ := m.getS e
    exact ⟨v, h1, o.val e m.sub v h2⟩
  | er x => exact (getS_not_er e).elim
  | bad => rw [e] at o; exact o.elim
theorem re_varR (i : Nat) {x : Str} {pos : Pos} (hN : X.N[i]? = some x := by rfl) (hv : Vis X.env.scope x := by first | exact Or.inl rfl | exact Or.inr (Or.inl rfl) | exact Or.inr (Or.inr rfl)) (hd : (x == ("__debug__" : Str)) = false := by decide)
    (hcd : (x == ("__classdict__" : Str)) = false := by decide) : RE X W .R (.Name x pos) (getR i) := by
  refine (pe_var hN hv hd hcd).imp fun σ H Q ⟨H0, F0, fp, F, r, m, o⟩ => ?_
  cases e : getR i r with
  | ok d =>
    obtain ⟨v, h1, h2⟩ := m.getR e
    exact ⟨v, h1, o.val e m.sub v h2⟩
  | er x => exact (getR_not_er e).elim
  | bad => rw [e] at o; exact o.elim
theorem re_cst {e : Expr} {v : V} {d : D} (h : PE X e (tC v)) (r : ∀ F, Rep (gOf X) F v d) : RE X W .S e (fun _ => .ok d) :=
  h.imp fun σ H Q ⟨H0, F0, fp, F, _, m, o⟩ => o F H (Grow.refl m.sub) v (r F)
theorem re_int {i j pos} : RE X W .S (.Constant (.int i) j pos) (fun _ => .ok (.int i)) := re_cst pe_int fun _ => .int i
theorem re_bl {b j pos} : RE X W .S (.Constant (.bool b) j pos) (fun _ => .ok (.bl b)) := re_cst pe_bl fun _ => .bl b
theorem re_non {j pos} : RE X W .S (.Constant .none j pos) (fun _ => .ok .non) := re_cst pe_non fun _ => .non
theorem re_str {x j pos} : RE X W .S (.Constant (.str x) j pos) (fun _ => .ok (.str x)) := re_cst pe_str fun _ => .str x
/-- a shared value, one's own: to be read -/
theorem re_rd {k : Kd} {e : Expr} {f : Env → Res D} (h : RE X W k e f) (hk : k.rd = true := by rfl) : RE X W .R e f :=
  h.imp fun σ H Q ⟨H0, F0, fp, F, r, m, o⟩ => ⟨H0, F0, fp, F, r, m, o.imp fun F' H' d _ p v kr => p v (Kd.R_of hk kr)⟩
/-- one's own is shared -/
theorem re_share {s : Shape} {e : Expr} {f : Env → Res D} (h : RE X W (.O s) e f) : RE X W .S e f :=
  h.imp fun σ H Q ⟨H0, F0, fp, F, r, m, o⟩ => ⟨H0, F0, fp, F, r, m, by
    cases e : f r with
    | ok d =>
      rw [e] at o
      intro F' H' g v ⟨A, ow, n⟩
      refine o (share F' H' A) H' ⟨g.h.share g.sub ow.nt, g.f.trans (share_same g.sub A), share_sub g.sub A, fun a u q => ?_⟩ v (ow.rep g.sub A fun _ z => z)
      by_cases ha : a ∈ A
      · exact .inr (n a ha)
      · rw [share_ne ha] at q
        exact g.new a u q
    | er x => rw [e] at o; exact o
    | bad => rw [e] at o; exact o⟩
theorem ra_nil : RA X W [] (fun _ => .ok []) := pa_nil.imp fun σ H Q ⟨H0, F0, fp, F, r, m, o⟩ => o F H (Grow.refl m.sub) [] .nil
theorem ra_cons {e : Expr} {es : List Expr} {f : Env → Res D} {g : Env → Res (List D)} (he : RE X W .S e f) (hr : RA X W es g) (hs : starEach (e :: es) X.env = (false, eval e X.env) :: starEach es X.env := by rfl) :
    RA X W (e :: es) (fun r => f r >>= fun d => g r >>= fun ds => .ok (d :: ds)) :=
  (pa_cons he hr hs).imp fun σ H Q ⟨H0, F0, fp, F, r, m, o⟩ => ⟨H0, F0, fp, F, r, m, o.bind fun F1 H1 d g1 o1 v kv =>
    ⟨H0, F0, fp, F1, r, m.grow g1, o1.bind fun F2 H2 ds g2 o2 vs rv => o2 F2 H2 (Grow.refl g2.sub) (v :: vs) (.cons (Mir.Rep.mono g2.f kv) rv)⟩⟩
end
/-- what an operation by values is worth -/
def OpD (G : GC) (rr : R2) (k1 k2 k : Kd) (op : D → D → Res D) : Prop := ∀ (F H : Hp) (x y : V) (a b d : D) (Q : VK) (Ha Hb : Hp), Same F H → k1.Rep G Ha F H x a → k2.Rep G Hb F H y b → op a b = .ok d → (∀ v F' H', Grow F H F' H' → k.Rep G H F' H' v d → Q v H') → rr x y H Q
def NoEr2 (op : D → D → Res D) : Prop := ∀ a b e, op a b ≠ .er e
section
variable {X : Cx} {W : Wi} {k1 k2 k : Kd} {a b : Expr} {fa fb : Env → Res D} {pos : Pos} {op : D → D → Res D}
theorem t_op {rr : R2} (h : OpD (gOf X) rr k1 k2 k op) (ne : NoEr2 op) (σ : L2.St) (H : Hp) (Q : VK)
    (t : tE (gOf X) W k (fun r => fa r >>= fun x => fb r >>= fun y => op x y) σ H Q) : tOp rr (tE (gOf X) W k1 fa) (tE (gOf X) W k2 fb) σ H Q := by
  obtain ⟨H0, F0, fp, F, r, m, o⟩ := t
  refine ⟨H0, F0, fp, F, r, m, o.bind fun F1 H1 d g1 o1 v kv => ⟨H0, F0, fp, F1, r, m.grow g1, o1.bind fun F2 H2 e g2 o2 u ku => ?_⟩⟩
  cases z : op d e with
  | ok w =>
    rw [z] at o2
    exact h F2 H2 v u d e w Q _ _ g2.sub (kv.grow g2) ku z fun v' F' H' g kr => o2 F' H' g v' (kr.later (g1.h.trans g2.h).fre)
  | er x => exact (ne _ _ _ z).elim
  | bad => rw [z] at o2; exact o2.elim
theorem re_op {o : Operator} {rr : R2} (ho : OpR X (binaryOp o) rr) (h : OpD (gOf X) rr k1 k2 k op) (ne : NoEr2 op) (ha : RE X W k1 a fa) (hb : RE X W k2 b fb) :
    RE X W k (.BinOp a o b pos) (fun r => fa r >>= fun x => fb r >>= fun y => op x y) := (pe_op ho ha hb).imp (t_op h ne)
theorem re_cmp {o : CmpOp} {rr : R2} (ho : OpR X (compareOp o) rr) (h : OpD (gOf X) rr k1 k2 k op) (ne : NoEr2 op) (ha : RE X W k1 a fa) (hb : RE X W k2 b fb) (hm : behindInMarks o b = false) :
    RE X W k (.Compare a [o] [b] pos) (fun r => fa r >>= fun x => fb r >>= fun y => op x y) := (pe_cmpR ho ha hb hm).imp (t_op h ne)
end
end Mir
namespace Mir
open PySem PySem.Spec PyProof.Rows L2
variable [Tn]
/-- how a block ends -/
inductive Oc where
  | nx (r : Env) | rt (d : D) | bk (r : Env) | ct (r : Env) | er (e : D) (r : Env) | bad
def Oc.seq (o : Oc) (g : Env → Oc) : Oc := match o with
  | .nx r => g r
  | o => o
@[simp] theorem nx_seq (r : Env) (g : Env → Oc) : (Oc.nx r).seq g = g r := rfl
@[simp] theorem rt_seq (d : D) (g : Env → Oc) : (Oc.rt d).seq g = .rt d := rfl
@[simp] theorem bk_seq (r : Env) (g : Env → Oc) : (Oc.bk r).seq g = .bk r := rfl
@[simp] theorem ct_seq (r : Env) (g : Env → Oc) : (Oc.ct r).seq g = .ct r := rfl
@[simp] theorem er_seq (e : D) (r : Env) (g : Env → Oc) : (Oc.er e r).seq g = .er e r := rfl
@[simp] theorem bad_seq (g : Env → Oc) : Oc.bad.seq g = .bad := rfl
/-- an expression ahead of the rest -/
def lift {α : Type} (x : Res α) (r : Env) (g : α → Oc) : Oc := match x with
  | .ok a => g a
  | .er e => .er e r
  | .bad => .bad
@[simp] theorem lift_ok {α : Type} (a : α) (r : Env) (g : α → Oc) : lift (.ok a) r g = g a := rfl
@[simp] theorem lift_er {α : Type} (e : D) (r : Env) (g : α → Oc) : lift (.er e : Res α) r g = .er e r := rfl
@[simp] theorem lift_bad {α : Type} (r : Env) (g : α → Oc) : lift (.bad : Res α) r g = .bad := rfl
/-- the names behind a target -/
def into (x : Res Env) : Oc := match x with
  | .ok r => .nx r
  | _ => .bad
@[simp] theorem into_ok (r : Env) : into (.ok r) = .nx r := rfl
/-- what is due behind a statement -/
def OutS (G : GC) (W : Wi) (k : Kd) (H0 F0 F : Hp) (D : Ends) : Oc → Prop
  | .nx r => ∀ fp F' σ' H', Same F F' → MS G W.J H0 F0 fp F' σ' H' r → D.nx σ' H'
  | .rt d => ∀ F' H' v, Same F F' → Grow F0 H0 F' H' → k.Rep G H0 F' H' v d → D.rt v H'
  | .bk r => ∀ fp F' σ' H', Same F F' → MS G W.J H0 F0 fp F' σ' H' r → D.bk σ' H'
  | .ct r => ∀ fp F' σ' H', Same F F' → MS G W.J H0 F0 fp F' σ' H' r → D.ct σ' H'
  | .er e r => ∀ fp F' σ' H' cls dd, Same F F' → MS G W.J H0 F0 fp F' σ' H' r → ExcIs G F' cls dd e → W.w cls dd σ' H'
  | .bad => False
def tS (G : GC) (W : Wi) (k : Kd) (g : Env → Oc) : TS := fun D σ H => ∃ H0 F0 fp F r, MS G W.J H0 F0 fp F σ H r ∧ OutS G W k H0 F0 F D (g r)
abbrev RS (X : Cx) (W : Wi) (k : Kd) (s : Stmt) (g : Env → Oc) : Prop := PS X s (tS (gOf X) W k g)
abbrev RSs (X : Cx) (W : Wi) (k : Kd) (s : List Stmt) (g : Env → Oc) : Prop := PSs X s (tS (gOf X) W k g)
section
variable {G : GC} {W : Wi} {k : Kd} {σ : L2.St} {H F F1 : Hp} {H0 F0 : Hp} {fp : Nat → List Addr} {r : Env} {D : Ends}
theorem MS.g0 {J : L2.St → Prop} (m : MS G J H0 F0 fp F σ H r) : Grow F0 H0 F H := ⟨m.s0, m.f0, m.sub, m.new⟩
theorem OutS.same {o : Oc} (h : OutS G W k H0 F0 F D o) (s : Same F F1) : OutS G W k H0 F0 F1 D o := by
  cases o with
  | nx r => exact fun fp F' σ' H' q m => h fp F' σ' H' (s.trans q) m
  | rt d => exact fun F' H' v q g kr => h F' H' v (s.trans q) g kr
  | bk r => exact fun fp F' σ' H' q m => h fp F' σ' H' (s.trans q) m
  | ct r => exact fun fp F' σ' H' q m => h fp F' σ' H' (s.trans q) m
  | er e r => exact fun fp F' σ' H' cls dd q m x => h fp F' σ' H' cls dd (s.trans q) m x
  | bad => exact h
/-- the first of two -/
theorem OutS.seq {o : Oc} {g : Env → Oc} (h : OutS G W k H0 F0 F D (o.seq g)) : OutS G W k H0 F0 F { D with nx := tS G W k g D } o := by
  cases o with
  | nx r => exact fun fp F' σ' H' q m => ⟨H0, F0, fp, F', r, m, h.same q⟩
  | rt d => exact h
  | bk r => exact h
  | ct r => exact h
  | er e r => exact h
  | bad => exact h
/-- an expression ahead -/
theorem OutS.lift {α : Type} {x : Res α} {g : α → Oc} {P : Hp → Hp → α → Prop} (m : MS G W.J H0 F0 fp F σ H r) (h : OutS G W k H0 F0 F D (lift x r g)) (i : ∀ F' H' a, Grow F H F' H' → OutS G W k H0 F0 F' D (g a) → P F' H' a) : Out G W σ F H P x := by
  cases x with
  | ok a => exact fun F' H' gr => i F' H' a gr (OutS.same h gr.f)
  | er e => exact fun cls dd F' H' gr x => h fp F' σ H' cls dd gr.f (m.grow gr) x
  | bad => exact h
end
section
variable {X : Cx} {W : Wi} {k : Kd}
theorem rss_nil : RSs X W k [] (fun r => .nx r) := pss_nil.imp fun D σ H ⟨H0, F0, fp, F, r, m, o⟩ => o fp F σ H (Same.refl _) m
theorem rss_cons {s : Stmt} {ss : List Stmt} {g1 g2 : Env → Oc} (h1 : RS X W k s g1) (h2 : RSs X W k ss g2) : RSs X W k (s :: ss) (fun r => (g1 r).seq g2) :=
  (pss_cons h1 h2).imp fun D σ H ⟨H0, F0, fp, F, r, m, o⟩ => ⟨H0, F0, fp, F, r, m, o.seq⟩
theorem rss_one {s : Stmt} {g : Env → Oc} (h1 : RS X W k s g) : RSs X W k [s] g := pss_one h1
/-- names that one owns are shared ahead of a statement -/
theorem rs_freeze (i : Nat) {s : Stmt} {g : Env → Oc} (h : RS X W k s g) : RS X W k s (fun r => g (freeze i r)) :=
  h.imp fun D σ H ⟨H0, F0, fp, F, r, m, o⟩ => let ⟨F', s, m'⟩ := m.freeze i; ⟨H0, F0, fp, F', _, m', o.same s⟩
theorem rs_if {c : Expr} {a b : List Stmt} {pos : Pos} {f : Env → Res Bool} {ga gb : Env → Oc} (hc : RT X W c f) (ha : RSs X W k a ga) (hb : RSs X W k b gb) :
    RS X W k (.If c a b pos) (fun r => lift (f r) r fun t => if t = true then ga r else gb r) :=
  (ps_if hc ha hb).imp fun D σ H ⟨H0, F0, fp, F, r, m, o⟩ => ⟨H0, F0, fp, F, r, m, o.lift m fun F' H' t g o' => by
    cases t with
    | true => exact ⟨H0, F0, fp, F', r, m.grow g, o'⟩
    | false => exact ⟨H0, F0, fp, F', r, m.grow g, o'⟩⟩
theorem rs_ret {e : Expr} {pos : Pos} {f : Env → Res D} (he : RE X W k e f) : RS X W k (.Return (some e) pos) (fun r => lift (f r) r fun d => .rt d) :=
  (ps_ret he).imp fun D σ H ⟨H0, F0, fp, F, r, m, o⟩ => ⟨H0, F0, fp, F, r, m, o.lift m fun F' H' d g o' v kv => o' F' H' v (Same.refl _) (m.grow g).g0 (kv.later m.s0.fre)⟩
theorem rs_expr {k' : Kd} {e : Expr} {pos : Pos} {f : Env → Res D} (he : RE X W k' e f) (hs : swapsWith e none pos.line X.env = pure false := by rfl) : RS X W k (.Expr e pos) (fun r => lift (f r) r fun _ => .nx r) :=
  (ps_expr he hs).imp fun D σ H ⟨H0, F0, fp, F, r, m, o⟩ => ⟨H0, F0, fp, F, r, m, o.lift m fun F' H' d g o' v kv => o' fp F' σ H' (Same.refl _) (m.grow g)⟩
theorem jset {i j : Nat} {v0 : Option (Option V)} (h : i ≠ j) : ∀ (σ : L2.St) (v : Option V), σ[j]? = v0 → (σ.set i v)[j]? = v0 := fun σ v e => (List.getElem?_set_ne h).trans e
/-- the names of a def that got a lambda: the third holds it, from the sixth on stands what it captured -/
def PinsF (gs : List Nat) (f : Addr) (ws : List V) (τ : L2.St) : Prop := τ[2]? = some (some (.ref f)) ∧ gs.map (fun j => τ[j]?) = ws.map (fun v => some (some v)) ∧ ∀ j ∈ gs, 6 ≤ j
theorem jfn {i : Nat} {gs : List Nat} {f : Addr} {ws : List V} (h : i ≠ 2 ∧ i < 6) : ∀ (σ : L2.St) (v : Option V), PinsF gs f ws σ → PinsF gs f ws (σ.set i v) := fun σ v ⟨a, b, c⟩ => by
  refine ⟨(List.getElem?_set_ne h.1).trans a, ?_, c⟩
  rw [← b]
  exact List.map_congr_left fun j hj => List.getElem?_set_ne (by have := c j hj; omega)
def tGd (G : GC) (J : L2.St → Prop) (g : D → Env → Res Env) : TG := fun v σ H Q => ∃ H0 F0 fp F r d, MS G J H0 F0 fp F σ H r ∧ Rep G F v d ∧ ∃ r', g d r = .ok r' ∧ ∀ fp' σ', MS G J H0 F0 fp' F σ' H r' → Q σ' H
def tGds (G : GC) (J : L2.St → Prop) (g : List D → Env → Res Env) : TGs := fun vs σ H Q => ∃ H0 F0 fp F r ds, MS G J H0 F0 fp F σ H r ∧ RepAll G F vs ds ∧ ∃ r', g ds r = .ok r' ∧ ∀ fp' σ', MS G J H0 F0 fp' F σ' H r' → Q σ' H
abbrev RG (X : Cx) (J : L2.St → Prop) (tg : Expr) (g : D → Env → Res Env) : Prop := PG X tg (tGd (gOf X) J g)
abbrev RGs (X : Cx) (J : L2.St → Prop) (tg : List Expr) (g : List D → Env → Res Env) : Prop := PGs X tg (tGds (gOf X) J g)
theorem PG.imp {e : Expr} {t t' : TG} (h : PG X e t) (i : ∀ v σ H Q, t' v σ H Q → t v σ H Q) : PG X e t' := ⟨fun pins s σ H v u Q I r hw => h.run pins s σ H v u Q I r (i v σ H Q hw)⟩
theorem PGs.imp {e : List Expr} {t t' : TGs} (h : PGs X e t) (i : ∀ v σ H Q, t' v σ H Q → t v σ H Q) : PGs X e t' := ⟨fun pins s σ H v u Q I r hw => h.run pins s σ H v u Q I r (i v σ H Q hw)⟩
theorem rg_name {J : L2.St → Prop} (i : Nat) {x : Str} {pos : Pos} (hN : X.N.Nodup) (hJ : ∀ σ v, J σ → J (σ.set i v) := by first | exact fun _ _ h => h | exact jset (by decide) | exact jfn (by decide)) (hi : X.N[i]? = some x := by rfl) (hx : Loc X.env.scope x := by first | exact Or.inl rfl | exact Or.inr rfl) (hf : X.fn x = true ∨ X.env.scope.names.lookup x = some .local := by first | exact .inl rfl | exact .inr rfl) :
    RG X J (.Name x pos) (fun d r => .ok (r.set i (.sh d))) :=
  PG.imp (pg_name hN hi hx hf) fun v σ H Q ⟨H0, F0, fp, F, r, d, m, rv, r', e, q⟩ => by
    cases e
    exact q fp _ (m.setS i rv hJ)
theorem rgs_nil {J : L2.St → Prop} : RGs X J [] (fun ds r => match ds with
    | [] => .ok r
    | _ => .bad) :=
  PGs.imp pgs_nil fun vs σ H Q ⟨H0, F0, fp, F, r, ds, m, rv, r', e, q⟩ => by
    cases rv with
    | nil => cases e; exact ⟨rfl, q fp σ m⟩
    | cons _ _ => cases e
theorem rgs_cons {J : L2.St → Prop} {e : Expr} {es : List Expr} {g : D → Env → Res Env} {gs : List D → Env → Res Env} (h1 : RG X J e g) (h2 : RGs X J es gs) (hs : (assignEach (e :: es) X.env).map (·.2) = assign e X.env :: (assignEach es X.env).map (·.2) := by rfl) :
    RGs X J (e :: es) (fun ds r => match ds with
    | d :: ds => g d r >>= fun r' => gs ds r'
    | [] => .bad) :=
  PGs.imp (pgs_cons h1 h2 hs) fun vs σ H Q ⟨H0, F0, fp, F, r, ds, m, rv, r', e, q⟩ => by
    cases rv with
    | nil => cases e
    | @cons v d vs ds rv rr =>
      have e' : (g d r >>= fun r' => gs ds r') = .ok r' := e
      cases e1 : g d r with
      | ok r1 =>
        rw [e1] at e'
        exact ⟨v, vs, rfl, H0, F0, fp, F, r, d, m, rv, r1, e1, fun fp1 σ1 m1 => ⟨H0, F0, fp1, F, r1, ds, m1, rr, r', e', q⟩⟩
      | er x => rw [e1] at e'; cases e'
      | bad => rw [e1] at e'; cases e'
theorem rg_tup {J : L2.St → Prop} {es : List Expr} {kk : Nat} {pos : Pos} {gs : List D → Env → Res Env} {n : Nat} (hc : X.calm = true) (h : RGs X J es gs) (hn : (assignEach es X.env).length = n := by rfl) (hst : (assignEach es X.env).findIdx? (·.1) = none := by rfl) :
    RG X J (.Tuple es kk pos) (fun d r => match d with
    | .tup ds => if ds.length = n then gs ds r else .bad
    | _ => .bad) :=
  PG.imp (pg_tup hc h hn hst) fun v σ H Q ⟨H0, F0, fp, F, r, d, m, rv, r', e, q⟩ => by
    cases rv with
    | @tup a vs ds sq ra =>
      have e' : (if ds.length = n then gs ds r else .bad) = .ok r' := e
      split at e'
      · rename_i hl
        exact ⟨a, vs, rfl, Same.sqT m.sub sq, by rw [ra.length]; exact hl, H0, F0, fp, F, r, ds, m, ra, r', e', q⟩
      · cases e'
    | _ => cases e
theorem t_asg {e : Expr} {te : TE} {f : Env → Res D} {g : D → Env → Res Env} {D : Ends} {σ : L2.St} {H : Hp}
    (t : tS (gOf X) W k (fun r => lift (f r) r fun d => into (g d r)) D σ H) : tAsg (tE (gOf X) W .S f) (tGd (gOf X) W.J g) D σ H := by
  obtain ⟨H0, F0, fp, F, r, m, o⟩ := t
  refine ⟨H0, F0, fp, F, r, m, o.lift m fun F' H' d gr o' v kv => ?_⟩
  cases e1 : g d r with
  | ok r1 =>
    rw [e1] at o'
    exact ⟨H0, F0, fp, F', r, d, m.grow gr, kv, r1, e1, fun fp' σ' m' => o' fp' F' σ' H' (Same.refl _) m'⟩
  | er x => rw [e1] at o'; exact o'.elim
  | bad => rw [e1] at o'; exact o'.elim
theorem rs_asg {tg e : Expr} {pos : Pos} {f : Env → Res D} {g : D → Env → Res Env} (he : RE X W .S e f) (hg : RG X W.J tg g) (hs : swapsWithSole [tg] e pos.line X.env = pure false := by rfl) (hw : swappedStores [tg] e X.env = pure none := by rfl)
    (h1 : (assignEach [tg] X.env).map (·.2) = [assign tg X.env] := by rfl) : RS X W k (.Assign [tg] e pos) (fun r => lift (f r) r fun d => into (g d r)) :=
  (ps_asg he hg hs hw h1).imp fun D σ H t => t_asg (e := e) (te := tE (gOf X) W .S f) t
theorem rs_set (i : Nat) {x : Str} {e : Expr} {pos pos' : Pos} {f : Env → Res D} (hN : X.N.Nodup) (he : RE X W .S e f) (hJ : ∀ σ v, W.J σ → W.J (σ.set i v) := by first | exact fun _ _ h => h | exact jset (by decide) | exact jfn (by decide)) (hi : X.N[i]? = some x := by rfl) (hx : Loc X.env.scope x := by first | exact Or.inl rfl | exact Or.inr rfl)
    (hs : swapsWith e (some (.Name x pos')) pos.line X.env = pure false := by rfl) (hf : X.fn x = true ∨ X.env.scope.names.lookup x = some .local := by first | exact .inl rfl | exact .inr rfl) :
    RS X W k (.Assign [.Name x pos'] e pos) (fun r => lift (f r) r fun d => .nx (r.set i (.sh d))) :=
  (ps_set hN hi hx he hs hf).imp fun D σ H ⟨H0, F0, fp, F, r, m, o⟩ => ⟨H0, F0, fp, F, r, m, o.lift m fun F' H' d gr o' v kv => o' fp F' _ H' (Same.refl _) ((m.grow gr).setS i kv hJ)⟩
theorem MS.setNew {G : GC} {J : L2.St → Prop} {H0 F0 F H F' H' : Hp} {fp : Nat → List Addr} {σ : L2.St} {r : Env} (m : MS G J H0 F0 fp F σ H r) (gr : Grow F H F' H') {v : V} {d : D} {s : Shape} (i : Nat) (kv : (Kd.O s).Rep G H F' H' v d) (hJ : ∀ σ v, J σ → J (σ.set i v)) :
    ∃ fp', MS G J H0 F0 fp' F' (σ.set i (some v)) H' (r.set i (.ow s d)) := by
  obtain ⟨A, ow, n⟩ := kv
  refine ⟨_, (m.grow gr).setO i ow (fun a ha => m.s0.free (n a ha)) (fun j t e ne h a ha hb => ?_) hJ⟩
  obtain ⟨⟨w, _, o2⟩, _⟩ := m.ow j t e h
  obtain ⟨_, u, z⟩ := o2.there a hb
  rw [n a ha] at z
  cases z
/-- name = a thing of one's own -/
theorem rs_setO (i : Nat) {s : Shape} {x : Str} {e : Expr} {pos pos' : Pos} {f : Env → Res D} (hN : X.N.Nodup) (he : RE X W (.O s) e f) (hJ : ∀ σ v, W.J σ → W.J (σ.set i v) := by first | exact fun _ _ h => h | exact jset (by decide) | exact jfn (by decide)) (hi : X.N[i]? = some x := by rfl) (hx : Loc X.env.scope x := by first | exact Or.inl rfl | exact Or.inr rfl)
    (hs : swapsWith e (some (.Name x pos')) pos.line X.env = pure false := by rfl) (hf : X.fn x = true ∨ X.env.scope.names.lookup x = some .local := by first | exact .inl rfl | exact .inr rfl) :
    RS X W k (.Assign [.Name x pos'] e pos) (fun r => lift (f r) r fun d => .nx (r.set i (.ow s d))) :=
  (ps_set hN hi hx he hs hf).imp fun D σ H ⟨H0, F0, fp, F, r, m, o⟩ => ⟨H0, F0, fp, F, r, m, o.lift m fun F' H' d gr o' v kv =>
    let ⟨fp', m'⟩ := m.setNew gr i kv hJ
    o' fp' F' _ H' (Same.refl _) m'⟩
end
/-- from the heap B on J walks the data ds, their parts in F -/
structure WalkD (G : GC) (F B : Hp) (J : It) (ds : List D) : Prop where
  goes : ∀ i H, i < ds.length → Same B H → J.go i H
  stops : ∀ H, Same B H → J.stop ds.length H
  yields : ∀ (i : Nat) F2 H2 x H3, i < ds.length → Same F F2 → Same F2 H2 → Same B H2 → J.yld i H2 x H3 → ∃ F3 d, Grow F2 H2 F3 H3 ∧ ds[i]? = some d ∧ Rep G F3 x d
def tI (G : GC) (W : Wi) (b : Bool) (f : Env → Res (List D)) : TI := fun σ H R => ∃ H0 F0 fp F r, MS G W.J H0 F0 fp F σ H r ∧ Out G W σ F H (fun F' H' ds => ∀ J, WalkD G F' (if b = true then F' else nT H') J ds → R J H') (f r)
/-- what a for walks: b: it stands in the shared part -/
abbrev RI (X : Cx) (W : Wi) (b : Bool) (tg iter : Expr) (f : Env → Res (List D)) : Prop := PI X tg iter (tI (gOf X) W b f)
def forD (f : D → Env → Oc) : List D → Env → Oc
  | [], r => .nx r
  | d :: ds, r => match f d r with
    | .nx r' => forD f ds r'
    | .ct r' => forD f ds r'
    | .bk r' => .nx r'
    | o => o
@[simp] theorem forD_nil (f : D → Env → Oc) (r : Env) : forD f [] r = .nx r := rfl
theorem forD_cons (f : D → Env → Oc) (d : D) (ds : List D) (r : Env) : forD f (d :: ds) r = match f d r with
    | .nx r' => forD f ds r'
    | .ct r' => forD f ds r'
    | .bk r' => .nx r'
    | o => o := rfl
section
variable {X : Cx} {W : Wi} {k : Kd}
theorem rs_for {tg iter : Expr} {body : List Stmt} {pos : Pos} {f : Env → Res (List D)} {g : D → Env → Res Env} {gb : Env → Oc} (hp : PassesOwn (model X.prog X.w) X.A X.env X.xe) (hc : X.calm = true) (hi : RI X W true tg iter f) (hg : RG X W.J tg g) (hb : RSs X W k body gb)
    (hs : ∀ x, foldedSetIterable iter X.env x = pure x := by intro _; rfl) : RS X W k (.For tg iter body [] pos) (fun r => lift (f r) r fun ds => forD (fun d r => (into (g d r)).seq gb) ds r) :=
  (ps_for hp hc hi hg hb hs).imp fun D σ H ⟨H0, F0, fp, F, r, m, o⟩ => ⟨H0, F0, fp, F, r, m, o.lift m fun F1 H1 ds gr o1 J w => by
    rw [if_pos rfl] at w
    refine ⟨fun i n σ H => n = ds.length - i ∧ i ≤ ds.length ∧ ∃ fp F r, Same F1 F ∧ MS (gOf X) W.J H0 F0 fp F σ H r ∧ OutS (gOf X) W k H0 F0 F D (forD (fun d r => (into (g d r)).seq gb) (ds.drop i) r),
      ⟨ds.length, by simp, Nat.zero_le _, fp, F1, r, Same.refl _, m.grow gr, by simpa using o1⟩, ?_⟩
    rintro i n σ H ⟨rfl, hi, fp, F, r, sF, m, o⟩
    by_cases hlt : i < ds.length
    · refine .inr ⟨w.goes i H hlt (sF.trans m.sub), fun σ' H' => i + 1 ≤ ds.length ∧ ∃ fp F r, Same F1 F ∧ MS (gOf X) W.J H0 F0 fp F σ' H' r ∧ OutS (gOf X) W k H0 F0 F D (forD (fun d r => (into (g d r)).seq gb) (ds.drop (i + 1)) r),
        fun σ' H' ⟨h1, h2⟩ => ⟨ds.length - (i + 1), by omega, rfl, h1, h2⟩, fun x H' y => ?_⟩
      obtain ⟨F3, d, g3, ed, rx⟩ := w.yields i F H x H' hlt sF m.sub (sF.trans m.sub) y
      have e : ds.drop i = d :: ds.drop (i + 1) := by
        rw [List.drop_eq_getElem_cons hlt]
        rw [List.getElem?_eq_getElem hlt] at ed
        rw [Option.some.inj ed]
      rw [e, forD_cons] at o
      cases e1 : g d r with
      | ok r1 =>
        rw [e1] at o
        refine ⟨H0, F0, fp, F3, r, d, m.grow g3, rx, r1, e1, fun fp' σ' m' => ⟨H0, F0, fp', F3, r1, m', ?_⟩⟩
        have o' : OutS (gOf X) W k H0 F0 F3 D _ := OutS.same o g3.f
        simp only [into_ok, nx_seq] at o'
        cases e2 : gb r1 with
        | nx r2 => rw [e2] at o'; exact fun fp2 F2 σ2 H2 q m2 => ⟨hlt, fp2, F2, r2, (sF.trans g3.f).trans q, m2, o'.same q⟩
        | ct r2 => rw [e2] at o'; exact fun fp2 F2 σ2 H2 q m2 => ⟨hlt, fp2, F2, r2, (sF.trans g3.f).trans q, m2, o'.same q⟩
        | bk r2 => rw [e2] at o'; exact o'
        | rt d2 => rw [e2] at o'; exact o'
        | er x2 r2 => rw [e2] at o'; exact o'
        | bad => rw [e2] at o'; exact o'
      | er x2 => rw [e1] at o; exact o.elim
      | bad => rw [e1] at o; exact o.elim
    · have e : i = ds.length := by omega
      subst e
      rw [List.drop_length] at o
      exact .inl ⟨w.stops H (sF.trans m.sub), o fp F σ H (Same.refl _) m⟩⟩
end
end Mir
namespace Mir
open PySem PySem.Spec PyProof.Rows L2
variable [Tn]
/-- what a call is to leave -/
def OutC (G : GC) (E : XK) {α : Type} (F H : Hp) (P : Hp → Hp → α → Prop) : Res α → Prop
  | .ok a => ∀ F' H', Grow F H F' H' → P F' H' a
  | .er e => ∀ cls dd F' H', Grow F H F' H' → ExcIs G F' cls dd e → E cls dd H'
  | .bad => False
/-- the promise of a def of worth g -/
def spM (G : GC) (k : Kd) (g : List D → Res D) : Sp := fun vs H Q E => ∃ F ds, Same F H ∧ Tt F H ∧ RepAll G F vs ds ∧ OutC G E F H (fun F' H' d => ∀ v, k.Rep G H F' H' v d → Q v H') (g ds)
/-- the promise of an __init__: it makes of the arguments the object -/
def spI (G : GC) (c : Nat) (g : List D → Res D) : Sp := fun vs H Q E => ∃ (x dx : Addr) (vs' : List V) (F H0 : Hp) (ds : List D), vs = .ref x :: vs' ∧ H x = some (.ins (G.ca c) dx []) ∧ Same H0 H ∧ H0 x = none ∧ Same F H0 ∧ Tt F H0 ∧ RepAll G F vs' ds ∧
  OutC G E F H0 (fun F' H' d => Rep G F' (.ref x) d → Q .non H') (g ds)
def startD (n : Nat) (ds : List D) : Env := ds.map .sh ++ List.replicate (n - ds.length) .un
/-- a body's worth -/
def runD (p n : Nat) (g : Env → Oc) (ds : List D) : Res D := if ds.length = p then (match g (startD n ds) with
  | .rt d => .ok d
  | .nx _ => .ok .non
  | .er e _ => .er e
  | _ => .bad) else .bad
def runO (p n : Nat) (g : Env → Oc) (ds : List D) : Res D := if ds.length = p then (match g (startD n ds) with
  | .rt d => .ok d
  | .er e _ => .er e
  | _ => .bad) else .bad
def startI (n c : Nat) (ds : List D) : Env := .ow .flat (.obj c []) :: startD (n - 1) ds
def selfR (r : Env) : Res D := match r[0]? with
  | some (Slot.sh d) => .ok d
  | some (Slot.ow _ d) => .ok d
  | _ => .bad
/-- the worth of an __init__ -/
def runI (p n c : Nat) (g : Env → Oc) (ds : List D) : Res D := if ds.length = p then (match g (startI n c ds) with
  | .nx r => selfR r
  | .er e _ => .er e
  | _ => .bad) else .bad
section
variable {G : GC}
theorem startD_un {n : Nat} {ds : List D} {i : Nat} {s : Slot} (h : (startD n ds)[i]? = some s) : (∃ d, ds[i]? = some d ∧ s = .sh d) ∨ s = .un := by
  unfold startD at h
  by_cases hi : i < ds.length
  · rw [List.getElem?_append_left (by simpa using hi), List.getElem?_map] at h
    cases e : ds[i]? with
    | none => rw [e] at h; cases h
    | some d => rw [e] at h; cases h; exact .inl ⟨d, rfl, rfl⟩
  · rw [List.getElem?_append_right (by simpa using hi), List.getElem?_replicate] at h
    split at h
    · cases h; exact .inr rfl
    · cases h
theorem start_at {N : List Str} {vs : List V} {i : Nat} {v : V} (h : vs[i]? = some v) : (L2.start N vs)[i]? = some (some v) := by
  have hi : i < vs.length := (List.getElem?_eq_some_iff.mp h).1
  unfold L2.start
  rw [List.getElem?_append_left (by simpa using hi), List.getElem?_map, h]
  rfl
theorem ms_start {F H : Hp} {N : List Str} {vs : List V} {ds : List D} (s : Same F H) (tt : Tt F H) (r : RepAll G F vs ds) : MS G (fun _ => True) H F (fun _ => []) F (L2.start N vs) H (startD N.length ds) where
  jo := trivial
  s0 := Stays.refl
  f0 := Same.refl _
  sub := s
  new := fun _ _ e => .inl e
  len := by
    unfold L2.start startD
    have := r.length
    simp only [List.length_append, List.length_map, List.length_replicate]
    omega
  sh := fun i d e => by
    rcases startD_un e with ⟨d', e1, e2⟩ | e2
    · cases e2
      obtain ⟨v, h1, h2⟩ := r.get e1
      exact ⟨v, start_at h1, h2⟩
    · cases e2
  ow := fun i s d e => by
    rcases startD_un e with ⟨_, _, z⟩ | z <;> cases z
  t0 := tt
  ap := fun i j s t d e _ h1 _ => by
    rcases startD_un h1 with ⟨_, _, z⟩ | z <;> cases z
end
section
variable {P : Program} {w : World} {K : PySem.W.Frag} {mg : Str → Option Value} {base : Heap}
abbrev WD (E : XK) : Wi := ⟨fun cls d _ H => E cls d H, fun _ => True⟩
theorem spM_len {G : GC} {k : Kd} {n : Nat} {g : List D → Res D} (hg : ∀ ds, ds.length ≠ n → g ds = .bad) : ∀ vs H Q E, spM G k g vs H Q E → vs.length = n := fun vs H Q E ⟨F, ds, _, _, r, o⟩ => by
  by_cases h : ds.length = n
  · rw [r.length]; exact h
  · rw [hg ds h] at o; exact o.elim
/-- A DEF by its body (what it gives is shared) -/
theorem fn_ok {x qual : Str} {st : Stmt} {f : Addr} {fd : FuncData} {N ps : List Str} {k : Nat} {g : Env → Oc} (F : Fun K x qual st f fd) (S : FnScope N ps (defScope st))
    (hb : ∀ (cdv : Value) (A : Around) (outer : List PySem.Env) (s : Shared) (H : Hp) (E : XK), Room k (A.deeper (envOfC qual (defScope st) s.heap.objs.size f cdv)) →
      RSs (cxOf (L2.CX P w) P w K mg base N qual (defScope st) f cdv A outer s H E) (WD E) .S (defBody st) g) : FnOk P w K mg base (L2.CX P w) (k + 1) f fd ps (spM ⟨P, w, K, mg⟩ .S (runD ps.length N.length g)) := by
  refine F.okX S (spM_len fun ds h => if_neg h) fun cdv A outer s H vs Q E hr ⟨F0, ds, s0, tt, r, o⟩ => ⟨_, hb cdv A outer s H E hr, H, F0, _, F0, _, ms_start s0 tt r, ?_⟩
  unfold runD at o
  split at o
  case isFalse => exact o.elim
  cases e : g (startD N.length ds) with
  | nx r' =>
    rw [e] at o
    exact fun fp F' σ' H' _ m => o F' H' m.g0 .non .non
  | rt d =>
    rw [e] at o
    exact fun F' H' v _ gr kr => o F' H' gr v kr
  | er x r' =>
    rw [e] at o
    exact fun fp F' σ' H' cls dd _ m ex => o cls dd F' H' m.g0 ex
  | bk r' => rw [e] at o; exact o.elim
  | ct r' => rw [e] at o; exact o.elim
  | bad => rw [e] at o; exact o.elim
end
/-- a def of the module by its name -/
structure FnM (P : Program) (w : World) (K : PySem.W.Frag) (mg : Str → Option Value) (base : Heap) (j : Nat) (x : Str) (k : Kd) (g : List D → Res D) : Prop where
  ex : ∃ (f : Addr) (fd : FuncData) (ps : List Str), FnOk P w K mg base (L2.CX P w) j f fd ps (spM ⟨P, w, K, mg⟩ k g) ∧ mg x = some (.ref f) ∧ PySem.W.keepIn K (.ref f) = true ∧ Binds K fd ps []
/-- a method m of the class c -/
structure MtM (P : Program) (w : World) (K : PySem.W.Frag) (mg : Str → Option Value) (base : Heap) (j : Nat) (m : Str) (c : Nat) (k : Kd) (g : List D → Res D) : Prop where
  ex : ∃ (f : Addr) (fd : FuncData) (ps : List Str), FnOk P w K mg base (L2.CX P w) j f fd ps (spM ⟨P, w, K, mg⟩ k g) ∧ Meth K ((⟨P, w, K, mg⟩ : GC).ca c) m f ∧ Binds K fd ps []
  cl : Cls K ((⟨P, w, K, mg⟩ : GC).ca c)
  no : m ∉ cflds c
/-- the class c is made by its __init__ -/
structure MkM (P : Program) (w : World) (K : PySem.W.Frag) (mg : Str → Option Value) (base : Heap) (j : Nat) (c : Nat) (g : List D → Res D) : Prop where
  ex : ∃ (f : Addr) (fd : FuncData) (ps : List Str), FnOk P w K mg base (L2.CX P w) j f fd ps (spI ⟨P, w, K, mg⟩ c g) ∧ Mk K ((⟨P, w, K, mg⟩ : GC).ca c) f ∧ mg (cname c) = some (.ref ((⟨P, w, K, mg⟩ : GC).ca c)) ∧ Binds K fd ps []
/-- an attribute f, by classes: its place -/
structure FldM (K : PySem.W.Frag) (ca : Nat → Addr) (f : Str) (p : Nat → Option Nat) : Prop where
  h : ∀ c i, p c = some i → (cflds c)[i]? = some f ∧ (cflds c).Nodup ∧ Cls K (ca c) ∧ NoAttr K (ca c) f
theorem lookup_zip {f : Str} : ∀ {l : List Str} {ws : List V} {i : Nat} {v : V}, l.Nodup → l[i]? = some f → ws[i]? = some v → (l.zip ws).lookup f = some v
  | [], _, _, _, _, h, _ => by simp at h
  | _ :: _, [], _, _, _, _, h => by simp at h
  | a :: l, w :: ws, 0, v, _, h, q => by
    simp at h q
    subst h q
    simp [List.lookup]
  | a :: l, w :: ws, i + 1, v, n, h, q => by
    have hm : f ∈ l := List.mem_of_getElem? (by simpa using h)
    have ne : f ≠ a := fun e => (List.nodup_cons.mp n).1 (e ▸ hm)
    have e : (f == a) = false := by simpa using ne
    rw [List.zip_cons_cons, List.lookup_cons, e]
    exact lookup_zip (i := i) (List.nodup_cons.mp n).2 (by simpa using h) (by simpa using q)
theorem lookup_zip_none {f : Str} : ∀ {l : List Str} {ws : List V}, f ∉ l → (l.zip ws).lookup f = none
  | [], _, _ => rfl
  | _ :: _, [], _ => rfl
  | a :: l, w :: ws, h => by
    have ne : f ≠ a := fun e => h (e ▸ List.mem_cons_self)
    have e : (f == a) = false := by simpa using ne
    rw [List.zip_cons_cons, List.lookup_cons, e]
    exact lookup_zip_none fun q => h (List.mem_cons_of_mem _ q)
/-- an attribute of an object -/
def fldD (p : Nat → Option Nat) (d : D) : Res D := match d with
  | .obj c vs => match p c with
    | some i => match vs[i]? with
      | some d => .ok d
      | none => .bad
    | none => .bad
  | _ => .bad
/-- the method of an object -/
def mthD (mt : Nat → Option (List D → Res D)) (d : D) : Res (List D → Res D) := match d with
  | .obj c vs => match mt c with
    | some g => .ok fun ds => g (.obj c vs :: ds)
    | none => .bad
  | _ => .bad
theorem fldD_er {p : Nat → Option Nat} {d e : D} (h : fldD p d = .er e) : False := by
  unfold fldD at h
  split at h
  · split at h
    · split at h <;> cases h
    · cases h
  · cases h
theorem fldD_ok {p : Nat → Option Nat} {d e : D} (h : fldD p d = .ok e) : ∃ c vs i, d = .obj c vs ∧ p c = some i ∧ vs[i]? = some e := by
  unfold fldD at h
  split at h
  · rename_i c vs
    split at h
    · rename_i i hp
      split at h
      · rename_i d' hv
        cases h
        exact ⟨c, vs, i, rfl, hp, hv⟩
      · cases h
    · cases h
  · cases h
theorem mthD_er {mt : Nat → Option (List D → Res D)} {d e : D} (h : mthD mt d = .er e) : False := by
  unfold mthD at h
  split at h
  · split at h <;> cases h
  · cases h
theorem mthD_ok {mt : Nat → Option (List D → Res D)} {d : D} {g' : List D → Res D} (h : mthD mt d = .ok g') : ∃ c vs g, d = .obj c vs ∧ mt c = some g ∧ g' = fun ds => g (.obj c vs :: ds) := by
  unfold mthD at h
  split at h
  · rename_i c vs
    split at h
    · rename_i g hm
      cases h
      exact ⟨c, vs, g, rfl, hm, rfl⟩
    · cases h
  · cases h
section
variable {X : Cx} {W : Wi} {k : Kd} {e o : Expr} {es : List Expr} {p pos apos : Pos}
theorem OutC.of {G : GC} {W : Wi} {σ : L2.St} {F H : Hp} {α : Type} {P : Hp → Hp → α → Prop} {x : Res α} (h : Out G W σ F H P x) : OutC G (WE W.w σ) F H P x := by
  cases x <;> exact h
theorem spM_of {G : GC} {W : Wi} {σ : L2.St} {F H1 H : Hp} {g : List D → Res D} {vs : List V} {ds : List D} {Q : VK} (s : Same F H) (tt : Tt F H) (hs : Fre H1 H) (r : RepAll G F vs ds)
    (o : Out G W σ F H (fun F' H' d => ∀ v, k.Rep G H1 F' H' v d → Q v H') (g ds)) : spM G k g vs H Q (WE W.w σ) :=
  ⟨F, ds, s, tt, r, OutC.of (o.imp fun F' H' d _ q v kv => q v (kv.later hs))⟩
/-- f(e, ..) -/
theorem re_call {j : Nat} {x : Str} {g : List D → Res D} {fa : Env → Res (List D)} (M : FnM X.prog X.w X.K X.mg X.base j x k g) (hr : Room j X.A) (tk : Takes X W.w) (ha : RA X W (e :: es) fa) (hg : Gl X x := by rfl)
    (hdb : (x == ("__debug__" : Str)) = false := by decide) (he : starEach (e :: es) X.env = (false, eval e X.env) :: starEach es X.env := by rfl) (hpl : (backTo pos (starEach es X.env)).any (·.1) = false := by rfl) :
    RE X W k (.Call (.Name x p) (e :: es) [] pos) (fun r => fa r >>= g) := by
  obtain ⟨f, fd, ps, F, hm, hk, hb⟩ := M.ex
  refine ⟨fun pins s σ H Q I ⟨H0, F0, fp, F1, r, m, o⟩ => ?_⟩
  refine wpAny_Call_Name_kw (ld_glob I hg hm ?_ hdb)
  have hw : tA (gOf X) W fa σ H fun vs H1 => spM (gOf X) k g vs H1 Q (WE W.w σ) := ⟨H0, F0, fp, F1, r, m, o.bind fun F2 H2 ds gr o2 vs rv => spM_of gr.sub (gr.h.tt m.tt) gr.h.fre rv o2⟩
  refine PySem.W.callWith_K (h₀ := X.base) I.ok.mod.kin hk (thn (ha.run pos pins s σ H _ I hw) fun us s1 ⟨vs, H1, I1, r1, q⟩ => ⟨I1.kIn, ?_⟩) he hpl
  exact run_fnS F hr hb (passAt tk σ) I1 r1 q
/-- o.f -/
theorem re_fld {f : Str} {pt : Nat → Option Nat} {fo : Env → Res D} (M : FldM X.K (gOf X).ca f pt) (ho : RE X W .S o fo) (hb : attributeBase o f X.env (eval o X.env) = eval o X.env := by rfl) : RE X W .S (.Attribute o f pos) (fun r => fo r >>= fldD pt) :=
  (pe_fld ho hb).imp fun σ H Q ⟨H0, F0, fp, F, r, m, oo⟩ => ⟨H0, F0, fp, F, r, m, oo.bind fun F' H' d gr o2 v kv => by
    cases ef : fldD pt d with
    | er x => exact (fldD_er ef).elim
    | bad => rw [ef] at o2; exact o2.elim
    | ok d' =>
      obtain ⟨c, vs, i, rfl, hp, hv⟩ := fldD_ok ef
      rw [ef] at o2
      have kv' : Rep (gOf X) F' v (.obj c vs) := kv
      cases kv' with
      | @obj a dx _ ws _ ha hz ra =>
        obtain ⟨h1, h2, h3, h4⟩ := M.h c i hp
        obtain ⟨w, hw, rw'⟩ := ra.get hv
        exact ⟨a, _, dx, _, w, rfl, gr.sub _ _ ha, h3, h4, lookup_zip h2 h1 hw, o2 F' H' (Grow.refl gr.sub) w rw'⟩⟩
/-- o.m(e, ..) -/
theorem re_meth {j : Nat} {mn : Str} {mt : Nat → Option (List D → Res D)} {fo : Env → Res D} {fa : Env → Res (List D)} {pl : Sem Bool} (M : ∀ c g, mt c = some g → MtM X.prog X.w X.K X.mg X.base j mn c k g) (hr : Room j X.A) (tk : Takes X W.w) (ho : RE X W .S o fo) (ha : RA X W (e :: es) fa)
    (he : starEach (e :: es) X.env = (false, eval e X.env) :: starEach es X.env := by rfl) (hpl : (backTo pos (starEach es X.env)).any (·.1) = false := by rfl)
    (ht : eval (.Call (.Attribute o mn apos) (e :: es) [] pos) X.env = (do
      let ov ← eval o X.env
      standAt apos.atName
      let (f, first) ← holding [ov] (getMethod ov mn pl)
      callWith pos f first (backTo pos (starEach (e :: es) X.env)) (backToKw pos (keywordEach [] X.env))) := by rfl) :
    RE X W k (.Call (.Attribute o mn apos) (e :: es) [] pos) (fun r => fo r >>= fun d => mthD mt d >>= fun g => fa r >>= g) := by
  refine ⟨fun pins s σ H Q I ⟨H0, F0, fp, F, r, m, oo⟩ => methcall_of ho I ⟨H0, F0, fp, F, r, m, oo.bind fun F1 H1 d gr o2 v kv => ?_⟩ ht⟩
  cases em : mthD mt d with
  | er x => exact (mthD_er em).elim
  | bad => rw [em] at o2; exact o2.elim
  | ok g' =>
    obtain ⟨c, vs, g, rfl, hc, rfl⟩ := mthD_ok em
    rw [em] at o2
    have kv' : Rep (gOf X) F1 v (.obj c vs) := kv
    obtain ⟨⟨f, fd, ps, FO, hmt, hb⟩, hcl, hno⟩ := M c g hc
    cases hkv : kv' with
    | @obj a dx _ ws _ hat hz ra =>
      refine ⟨a, _, dx, _, f, rfl, gr.sub _ _ hat, hcl, hmt, lookup_zip_none hno, fun s1 I1 => ?_⟩
      have hw : tA (gOf X) W fa σ H1 fun us H2 => spM (gOf X) k g (.ref a :: us) H2 Q (WE W.w σ) := ⟨H0, F0, fp, F1, r, m.grow gr, Out.bind o2 fun F2 H2 ds gr2 o3 us ru =>
        spM_of gr2.sub (gr2.h.tt (gr.h.tt m.tt)) (gr.h.trans gr2.h).fre (.cons (kv'.mono gr2.f) ru) o3⟩
      refine PySem.W.callWith_K (first := [.ref a]) (h₀ := X.base) I1.ok.mod.kin hmt.kp (thn (ha.run pos pins s1 σ H1 _ I1 hw) fun us s2 ⟨vs2, H2, I2, r2, q2⟩ => ⟨I2.kIn, ?_⟩) he hpl
      exact run_fnS (us := .ref a :: us) (vs := .ref a :: vs2) FO hr hb (passAt tk σ) I2 (.cons rfl r2) q2
theorem re_meth0 {j : Nat} {mn : Str} {mt : Nat → Option (List D → Res D)} {fo : Env → Res D} {pl : Sem Bool} (M : ∀ c g, mt c = some g → MtM X.prog X.w X.K X.mg X.base j mn c k g) (hr : Room j X.A) (tk : Takes X W.w) (ho : RE X W .S o fo)
    (ht : eval (.Call (.Attribute o mn apos) [] [] pos) X.env = (do
      let ov ← eval o X.env
      standAt apos.atName
      let (f, first) ← holding [ov] (getMethod ov mn pl)
      callWith pos f first (backTo pos (starEach [] X.env)) (backToKw pos (keywordEach [] X.env))) := by rfl) :
    RE X W k (.Call (.Attribute o mn apos) [] [] pos) (fun r => fo r >>= fun d => mthD mt d >>= fun g => g []) := by
  refine ⟨fun pins s σ H Q I ⟨H0, F0, fp, F, r, m, oo⟩ => methcall_of ho I ⟨H0, F0, fp, F, r, m, oo.bind fun F1 H1 d gr o2 v kv => ?_⟩ ht⟩
  cases em : mthD mt d with
  | er x => exact (mthD_er em).elim
  | bad => rw [em] at o2; exact o2.elim
  | ok g' =>
    obtain ⟨c, vs, g, rfl, hc, rfl⟩ := mthD_ok em
    rw [em] at o2
    have kv' : Rep (gOf X) F1 v (.obj c vs) := kv
    obtain ⟨⟨f, fd, ps, FO, hmt, hb⟩, hcl, hno⟩ := M c g hc
    cases hkv : kv' with
    | @obj a dx _ ws _ hat hz ra =>
      refine ⟨a, _, dx, _, f, rfl, gr.sub _ _ hat, hcl, hmt, lookup_zip_none hno, fun s1 I1 => ?_⟩
      exact PySem.W.callWith_K0 (first := [.ref a]) I1.kIn hmt.kp (run_fnS (us := [.ref a]) (vs := [.ref a]) FO hr hb (passAt tk σ) I1 (.cons rfl .nil) (spM_of gr.sub (gr.h.tt m.tt) gr.h.fre (.cons kv' .nil) o2))
end
end Mir
namespace Mir
open PySem PySem.Spec PyProof.Rows L2
variable [Tn]
section
variable {X : Cx} {CX : CXT} {k : Nat} {f C : Addr} {fd : FuncData} {ps : List Str} {sp : Sp} {E : L2.St → XK}
/-- a new instance and its __init__, what is raised wished for at the names' values -/
theorem run_makeS {pins : List (Addr × Obj)} {σ : L2.St} {H : Hp} {s : Shared} {Q : VK} {us : List Value} {vs : List V} (M : Mk X.K C f) (F : FnOk X.prog X.w X.K X.mg X.base CX k f fd ps sp) (hr : Room (k + 1) X.A) (hb : Binds X.K fd ps []) (hx : PassesAt CX X σ (E σ)) (I : Inv X pins σ H s) (r : Vals vs us)
    (h : ∀ x dx, H x = none → H dx = none → dx ≠ x → sp (.ref x :: vs) (upd (upd H dx (.own x)) x (.ins C dx [])) (fun v H2 => v = .non ∧ Q (.ref x) H2) (E σ)) : wpAny (model X.prog X.w) X.A (call (.ref C) us) (EP X pins σ Q) X.xe s := by
  have n1 : H (s.heap.objs.size + 1) = none := I.hok.fresh (Nat.le_succ _)
  have n0 : H s.heap.objs.size = none := I.hok.fresh (Nat.le_refl _)
  have due := h _ _ n1 n0 (Nat.ne_of_lt (Nat.lt_succ_self _))
  have J := Inv.made (C := C) I
  have rr : Vals (V.ref (s.heap.objs.size + 1) :: vs) (Value.ref (s.heap.objs.size + 1) :: us) := .cons rfl r
  have hl : (Value.ref (s.heap.objs.size + 1) :: us).length = ps.length := (F.len _ _ _ _ due) ▸ rr.length.symm
  have bt := hb _ (Value.ref (s.heap.objs.size + 1) :: us) J.kIn (by rw [List.append_nil]; exact hl)
  rw [List.append_nil] at bt
  refine wpAny_call (make_map (f := f) I.kIn M.makes M.init (beq_iff_eq.mp M.fn) (codeAny_mono (F.run _ X.stack _ _ _ _ _ _ (E σ) (hr.make C us []) (J.env0.make C us []) bt rr due) fun res s' q => ?_))
  match res, q with
  | .error e, q => exact hx pins _ _ e s' J q
  | .ok (.ret u), q =>
    obtain ⟨v, H', I', rv, ev, q'⟩ := J.after q
    subst ev
    exact ⟨rv, ⟨V.ref (s.heap.objs.size + 1), H', I', rfl, q'⟩⟩
  | .ok .next, q => exact q.elim
  | .ok .brk, q => exact q.elim
  | .ok .cont, q => exact q.elim
end
section
variable {X : Cx} {W : Wi} {e : Expr} {es : List Expr} {p pos : Pos}
theorem spI_of {G : GC} {W : Wi} {σ : L2.St} {F H1 H : Hp} {c : Nat} {g : List D → Res D} {vs : List V} {ds : List D} {Q : VK} (s : Same F H) (tt : Tt F H) (r : RepAll G F vs ds)
    (o : Out G W σ F H (fun F' H' d => ∀ v, Kd.S.Rep G H1 F' H' v d → Q v H') (g ds)) : ∀ x dx, H x = none → H dx = none → dx ≠ x →
      spI G c g (.ref x :: vs) (upd (upd H dx (.own x)) x (.ins (G.ca c) dx [])) (fun v H2 => v = .non ∧ Q (.ref x) H2) (WE W.w σ) := fun x dx nx ndx ne =>
  ⟨x, dx, vs, F, H, ds, rfl, upd_same, fun b o e => by rw [upd_ne (ne_of_none e nx), upd_ne (ne_of_none e ndx)]; exact e, nx, s, tt, r, OutC.of (o.imp fun F' H' d _ q rv => ⟨rfl, q (.ref x) rv⟩)⟩
/-- C(e, ..) -/
theorem re_make {j c : Nat} {x : Str} {g : List D → Res D} {fa : Env → Res (List D)} (M : MkM X.prog X.w X.K X.mg X.base j c g) (hr : Room (j + 1) X.A) (tk : Takes X W.w) (ha : RA X W (e :: es) fa) (hx : x = cname c := by rfl) (hg : Gl X x := by rfl)
    (hdb : (x == ("__debug__" : Str)) = false := by decide) (he : starEach (e :: es) X.env = (false, eval e X.env) :: starEach es X.env := by rfl) (hpl : (backTo pos (starEach es X.env)).any (·.1) = false := by rfl) :
    RE X W .S (.Call (.Name x p) (e :: es) [] pos) (fun r => fa r >>= g) := by
  subst hx
  obtain ⟨f, fd, ps, F, hmk, hm, hb⟩ := M.ex
  refine ⟨fun pins s σ H Q I ⟨H0, F0, fp, F1, r, m, o⟩ => ?_⟩
  refine wpAny_Call_Name_kw (ld_glob I hg hm ?_ hdb)
  have hw : tA (gOf X) W fa σ H fun vs H1 => ∀ x dx, H1 x = none → H1 dx = none → dx ≠ x → spI (gOf X) c g (.ref x :: vs) (upd (upd H1 dx (.own x)) x (.ins ((gOf X).ca c) dx [])) (fun v H2 => v = .non ∧ Q (.ref x) H2) (WE W.w σ) :=
    ⟨H0, F0, fp, F1, r, m, o.bind fun F2 H2 ds gr o2 vs rv => spI_of gr.sub (gr.h.tt m.tt) rv o2⟩
  refine PySem.W.callWith_K (h₀ := X.base) I.ok.mod.kin hmk.kp (thn (ha.run pos pins s σ H _ I hw) fun us s1 ⟨vs, H1, I1, r1, q⟩ => ⟨I1.kIn, ?_⟩) he hpl
  exact run_makeS hmk F hr hb (passAt tk σ) I1 r1 q
end
section
variable {G : GC}
theorem spI_len {c n : Nat} {g : List D → Res D} (hg : ∀ ds, ds.length ≠ n → g ds = .bad) : ∀ vs H Q E, spI G c g vs H Q E → vs.length = n + 1 := fun vs H Q E ⟨x, dx, vs', F, H0, ds, ev, _, _, _, _, _, r, o⟩ => by
  by_cases h : ds.length = n
  · rw [ev, List.length_cons, r.length, h]
  · rw [hg ds h] at o; exact o.elim
theorem ms_startI {c : Nat} {x dx : Addr} {F H0 H : Hp} {N : List Str} {vs : List V} {ds : List D} (hx : H x = some (.ins (G.ca c) dx [])) (s0 : Same H0 H) (nx : H0 x = none) (s : Same F H0) (tt : Tt F H0) (r : RepAll G F vs ds) (hN : 0 < N.length) :
    MS G (fun σ => σ[0]? = some (some (.ref x))) H0 F (fun _ => [x]) F (L2.start N (.ref x :: vs)) H (startI N.length c ds) where
  jo := start_at rfl
  s0 := .of s0 (Same.refl _) (fun _ _ e => .inl e)
  f0 := Same.refl _
  sub := s.trans s0
  new := fun _ _ e => .inl e
  len := by
    unfold L2.start startI startD
    have := r.length
    simp only [List.length_append, List.length_map, List.length_replicate, List.length_cons]
    omega
  sh := fun i d e => by
    cases i with
    | zero => cases e
    | succ i =>
      rcases startD_un (show (startD (N.length - 1) ds)[i]? = some (.sh d) from e) with ⟨d', e1, e2⟩ | e2
      · cases e2
        obtain ⟨v, h1, h2⟩ := r.get e1
        exact ⟨v, start_at (by simpa using h1), h2⟩
      · cases e2
  ow := fun i t d e => by
    cases i with
    | zero =>
      cases e
      refine ⟨⟨.ref x, start_at rfl, ?_⟩, fun a ha => by rw [List.mem_singleton.mp ha]; exact nx⟩
      refine Own.obj (ws := []) (dx := dx) rfl (by rw [List.zip_nil_right]; exact hx) (s.free nx) (Nat.zero_le _) .nil (by simp)
    | succ i =>
      rcases startD_un (show (startD (N.length - 1) ds)[i]? = some (.ow t d) from e) with ⟨_, _, z⟩ | z <;> cases z
  ap := fun i j t u d e ne h1 h2 => by
    have z : ∀ {i : Nat} {t : Shape} {d : D}, (startI N.length c ds)[i]? = some (.ow t d) → i = 0 := fun {i t d} h => by
      cases i with
      | zero => rfl
      | succ i =>
        rcases startD_un (show (startD (N.length - 1) ds)[i]? = some (.ow t d) from h) with ⟨_, _, z⟩ | z <;> cases z
    exact absurd ((z h1).trans (z h2).symm) ne
  t0 := tt
end
section
variable {P : Program} {w : World} {K : PySem.W.Frag} {mg : Str → Option Value} {base : Heap}
abbrev WI (x : Addr) (E : XK) : Wi := ⟨fun cls d _ H => E cls d H, fun σ => σ[0]? = some (some (.ref x))⟩
theorem fn_okI {qual : Str} {st : Stmt} {f : Addr} {fd : FuncData} {N ps : List Str} {k c : Nat} {g : Env → Oc} (F : Fun K "__init__" qual st f fd) (S : FnScope N ps (defScope st)) (hps : 0 < ps.length)
    (hb : ∀ (cdv : Value) (A : Around) (outer : List PySem.Env) (s : Shared) (H : Hp) (E : XK) (x : Addr), Room k (A.deeper (envOfC qual (defScope st) s.heap.objs.size f cdv)) →
      RSs (cxOf (L2.CX P w) P w K mg base N qual (defScope st) f cdv A outer s H E) (WI x E) .S (defBody st) g) : FnOk P w K mg base (L2.CX P w) (k + 1) f fd ps (spI ⟨P, w, K, mg⟩ c (runI (ps.length - 1) N.length c g)) := by
  have hNl : ps.length ≤ N.length := by have := congrArg List.length S.pre; rw [List.length_take] at this; omega
  refine F.okX S (fun vs H Q E h => (spI_len (n := ps.length - 1) (fun ds h => if_neg h) vs H Q E h).trans (by omega)) fun cdv A outer s H vs Q E hr ⟨x, dx, vs', F1, H0, ds, ev, hx, s0, nx, sF, tt0, r, o⟩ => ?_
  subst ev
  refine ⟨_, hb cdv A outer s H E x hr, H0, F1, _, F1, _, ms_startI hx s0 nx sF tt0 r (by omega), ?_⟩
  unfold runI at o
  split at o
  case isFalse => exact o.elim
  cases e : g (startI N.length c ds) with
  | rt d => rw [e] at o; exact o.elim
  | er y r' =>
    rw [e] at o
    exact fun fp F' σ' H' cls dd _ m ex => o cls dd F' H' m.g0 ex
  | nx r' =>
    rw [e] at o
    intro fp F' σ' H' _ m
    have o' : OutC _ E F1 H0 _ (selfR r') := o
    have j0 : σ'[0]? = some (some (.ref x)) := m.jo
    cases e2 : selfR r' with
    | er y => unfold selfR at e2; split at e2 <;> cases e2
    | bad => rw [e2] at o'; exact o'.elim
    | ok d =>
      rw [e2] at o'
      obtain ⟨F2, _, m2⟩ := m.freeze 0
      have hs : (freeze 0 r')[0]? = some (.sh d) := by
        unfold selfR at e2
        split at e2
        · rename_i d' hd
          cases e2
          unfold freeze
          rw [hd]
          exact hd
        · rename_i t d' hd
          cases e2
          unfold freeze
          rw [hd]
          exact List.getElem?_set_self (List.getElem?_eq_some_iff.mp hd).1
        · cases e2
      obtain ⟨v, hv, rv⟩ := m2.sh 0 d hs
      rw [j0] at hv
      cases hv
      exact o' F2 H' m2.g0 rv
  | bk r' => rw [e] at o; exact o.elim
  | ct r' => rw [e] at o; exact o.elim
  | bad => rw [e] at o; exact o.elim
end
section
variable {G : GC} {F H F' H' : Hp}
theorem OwnAll.snoc {f f' : Nat → Shape} {s : Shape} {v : V} {d : D} {B : List Addr} (q : Own G F H s v d B) : ∀ {n : Nat} {vs : List V} {ds : List D} {A : List Addr}, OwnAll G F H f n vs ds A → (∀ j, n ≤ j → j < n + vs.length → f' j = f j) → f' (n + vs.length) = s → (∀ a ∈ A, a ∉ B) →
    OwnAll G F H f' n (vs ++ [v]) (ds ++ [d]) (A ++ B)
  | n, [], _, _, .nil, _, h2, _ => by
    have z : OwnAll G F H f' n [v] [d] (B ++ []) := .cons (by rw [show f' n = s from h2]; exact q) .nil (fun _ _ h => nomatch h)
    rw [List.append_nil] at z
    exact z
  | n, v' :: vs, d' :: ds, _, .cons (A := A1) (B := A2) r t x, h1, h2, h3 => by
    rw [List.append_assoc]
    refine .cons (by rw [h1 n (Nat.le_refl _) (by simp)]; exact r) (OwnAll.snoc q t (fun j a b => h1 j (by omega) (by simp only [List.length_cons]; omega)) (by rw [← h2]; congr 1; simp only [List.length_cons]; omega) fun a ha => h3 a (List.mem_append_right _ ha)) fun a ha hb => ?_
    rcases List.mem_append.mp hb with z | z
    · exact x a ha z
    · exact h3 a (List.mem_append_left _ ha) z
theorem OwnAll.length {f : Nat → Shape} : ∀ {n : Nat} {vs : List V} {ds : List D} {A : List Addr}, OwnAll G F H f n vs ds A → vs.length = ds.length
  | _, _, _, _, .nil => rfl
  | _, _, _, _, .cons _ t _ => congrArg (· + 1) (OwnAll.length t)
theorem Keep.upd {A : List Addr} {a : Addr} {o : HO} (h : a ∉ A) : Keep A F H F (upd H a o) := ⟨fun b hb u e => by rw [upd_ne (fun z => h (by rw [← z]; exact hb))]; exact e, Same.refl _, fun _ _ z => z⟩
theorem putF_zip {f : Str} {y : V} : ∀ {l : List Str} {ws : List V}, l.Nodup → l[ws.length]? = some f → putF f y (l.zip ws) = l.zip (ws ++ [y])
  | [], ws, _, h => by simp at h
  | a :: l, [], _, h => by
    simp at h
    subst h
    show [(a, y)] = _
    rw [List.nil_append, List.zip_cons_cons, List.zip_nil_right]
  | a :: l, w :: ws, n, h => by
    have h' : l[ws.length]? = some f := by simpa using h
    have hm : f ∈ l := List.mem_of_getElem? h'
    have ne : ¬ a = f := fun e => (List.nodup_cons.mp n).1 (e ▸ hm)
    rw [List.cons_append, List.zip_cons_cons, List.zip_cons_cons, ← putF_zip (List.nodup_cons.mp n).2 h']
    show (if a = f then _ else _) = _
    rw [if_neg ne]
/-- an owned thing is written: the state behind -/
theorem MS.write {J : L2.St → Prop} {H0 F0 : Hp} {fp : Nat → List Addr} {σ : L2.St} {r : Env} (m : MS G J H0 F0 fp F σ H r) {i : Nat} {s s' : Shape} {d d' : D} {v : V} {a : Addr} {o : HO} {A : List Addr} (hi : r[i]? = some (.ow s d)) (hv : σ[i]? = some (some v)) (ha : a ∈ fp i)
    (q : Own G F (upd H a o) s' v d' A) (hA : ∀ b ∈ A, b ∈ fp i ∨ (H b = none ∨ (H0 b = none ∧ ∀ j, j ≠ i → ∀ t e, r[j]? = some (.ow t e) → b ∉ fp j))) : ∃ fp', MS G J H0 F0 fp' F σ (upd H a o) (r.set i (.ow s' d')) := by
  have hil : i < r.length := (List.getElem?_eq_some_iff.mp hi).1
  obtain ⟨⟨v0, hv0, o0⟩, hn⟩ := m.ow i s d hi
  have h0 : H0 a = none := hn a ha
  have f0 : F a = none := (o0.there a (by assumption)).1
  have notA : ∀ j t e, j ≠ i → r[j]? = some (.ow t e) → a ∉ fp j := fun j t e ne h z => m.ap i j s t d e (Ne.symm ne) hi h a ha z
  refine ⟨fun j => if j = i then A else fp j, m.jo, m.s0.upd h0, m.f0, fun b u e => ?_, m.new, by simpa using m.len, fun j e h => ?_, fun j t e h => ?_, fun j k t u e1 e2 ne h1 h2 b => ?_, m.t0⟩
  · rw [upd_ne (ne_of_none e f0)]; exact m.sub b u e
  · rcases get_set_slot h with ⟨_, x, _⟩ | ⟨ne, h⟩
    · cases x
    · exact m.sh j e h
  · rcases get_set_slot h with ⟨rfl, x, hl⟩ | ⟨ne, h⟩
    · cases x
      rw [if_pos rfl]
      refine ⟨⟨v, hv, q⟩, fun b hb => ?_⟩
      rcases hA b hb with z | z | z
      · exact hn b z
      · exact m.s0.free z
      · exact z.1
    · rw [if_neg (Ne.symm ne)]
      obtain ⟨⟨u, q1, q2⟩, q3⟩ := m.ow j t e h
      exact ⟨⟨u, q1, q2.keep (Keep.upd (notA j t e (Ne.symm ne) h))⟩, q3⟩
  · have other : ∀ j t e, j ≠ i → r[j]? = some (.ow t e) → ∀ b ∈ A, b ∉ fp j := fun j t e ne h b hb z => by
      rcases hA b hb with y | y | y
      · exact m.ap i j s t d e (Ne.symm ne) hi h b y z
      · obtain ⟨⟨_, _, o3⟩, _⟩ := m.ow j t e h
        obtain ⟨_, w, e3⟩ := o3.there b z
        rw [y] at e3
        cases e3
      · exact y.2 j ne t e h z
    rcases get_set_slot h1 with ⟨rfl, x, _⟩ | ⟨n1, h1⟩
    · rcases get_set_slot h2 with ⟨z, _, _⟩ | ⟨n2, h2⟩
      · exact absurd z ne
      · rw [if_pos rfl, if_neg (Ne.symm n2)]
        exact other k u e2 (Ne.symm n2) h2 b
    · rcases get_set_slot h2 with ⟨rfl, x, _⟩ | ⟨n2, h2⟩
      · rw [if_pos rfl, if_neg (Ne.symm n1)]
        exact fun hb hz => other j t e1 (Ne.symm n1) h1 b hz hb
      · rw [if_neg (Ne.symm n1), if_neg (Ne.symm n2)]
        exact m.ap j k t u e1 e2 ne h1 h2 b
end
/-- a class that may be made and read -/
structure ClM (K : PySem.W.Frag) (ca : Nat → Addr) (f : Str) (c : Nat) : Prop where
  cl : Cls K (ca c)
  no : NoAttr K (ca c) f
  nd : (cflds c).Nodup
/-- the n-th part is of the shape t -/
def Shape.setKid (s : Shape) (n : Nat) (t : Shape) : Shape := match t with
  | .sh => s
  | t => .parts ((List.range n).map s.kid ++ [t])
/-- the n-th part is none of one's own as yet -/
def Shape.fits (s : Shape) (n : Nat) : Bool := match s with
  | .parts l => decide (l.length ≤ n)
  | .opts _ => false
  | _ => true
theorem Shape.kid_fits {s : Shape} {n : Nat} (h : s.fits n = true) : s.kid n = .sh := by
  cases s with
  | parts l =>
    have h' : l.length ≤ n := of_decide_eq_true h
    show l.getD n .sh = .sh
    rw [List.getD_eq_getElem?_getD, List.getElem?_eq_none h']
    rfl
  | opts l => cases h
  | _ => rfl
theorem Shape.setKid_own {s : Shape} {n : Nat} {t : Shape} (h : s.own = true) : (s.setKid n t).own = true := by
  cases t with
  | sh => exact h
  | _ => rfl
theorem Shape.setKid_at {s : Shape} {n : Nat} {t : Shape} (h : s.fits n = true) : (s.setKid n t).kid n = t := by
  have e : ∀ t, Shape.kid (.parts ((List.range n).map s.kid ++ [t])) n = t := fun t => by
    show (_ ++ [t]).getD n .sh = t
    rw [List.getD_eq_getElem?_getD, List.getElem?_append_right (by simp)]
    simp
  cases t with
  | sh => exact Shape.kid_fits h
  | flat => exact e _
  | parts l => exact e _
  | opts l => exact e _
theorem Shape.setKid_lt {s : Shape} {n j : Nat} {t : Shape} (h : j < n) : (s.setKid n t).kid j = s.kid j := by
  have e : ∀ t, Shape.kid (.parts ((List.range n).map s.kid ++ [t])) j = s.kid j := fun t => by
    show (_ ++ [t]).getD j .sh = _
    rw [List.getD_eq_getElem?_getD, List.getElem?_append_left (by simpa using h), List.getElem?_map, List.getElem?_range h]
    rfl
  cases t with
  | sh => rfl
  | flat => exact e _
  | parts l => exact e _
  | opts l => exact e _
section
variable {X : Cx} {W : Wi} {k : Kd} {e : Expr} {f : Str} {pos p' ps : Pos} {fe : Env → Res D}
theorem re_shO {e : Expr} {f : Env → Res D} (h : RE X W .S e f) : RE X W (.O .sh) e f :=
  h.imp fun σ H Q ⟨H0, F0, fp, F, r, m, o⟩ => ⟨H0, F0, fp, F, r, m, o.imp fun F' H' d _ p v kv => p v ⟨[], .sh kv, fun _ z => nomatch z⟩⟩
/-- the next attribute of the object in slot i -/
def setF (i c : Nat) (f : Str) (s : Shape) (d : D) (r : Env) : Oc := match r[i]? with
  | some (.ow g (.obj c' vs)) => if c' = c ∧ (cflds c)[vs.length]? = some f ∧ g.own = true ∧ g.fits vs.length = true then .nx (r.set i (.ow (g.setKid vs.length s) (.obj c (vs ++ [d])))) else .bad
  | _ => .bad
theorem rs_fldO (i c : Nat) {s : Shape} {x : Str} (M : ClM X.K (gOf X).ca f c) (he : RE X W (.O s) e fe) (hN : X.N[i]? = some x := by rfl) (hv : Vis X.env.scope x := by first | exact Or.inl rfl | exact Or.inr (Or.inl rfl)) (hd : (x == ("__debug__" : Str)) = false := by decide)
    (hcd : (x == ("__classdict__" : Str)) = false := by decide) (hs : swapsWith e (some (.Attribute (.Name x ps) f p')) pos.line X.env = pure false := by rfl) :
    RS X W k (.Assign [.Attribute (.Name x ps) f p'] e pos) (fun r => lift (fe r) r fun d => setF i c f s d r) :=
  (ps_fld (pe_var hN hv hd hcd) he hs).imp fun D σ H ⟨H0, F0, fp, F, r, m, o⟩ => ⟨H0, F0, fp, F, r, m, o.lift m fun F' H' d gr o' v ⟨B, ob, nb⟩ => by
    unfold setF at o'
    split at o'
    · rename_i g c' vs hi
      split at o'
      · rename_i hc
        obtain ⟨rfl, hf, go, gf⟩ := hc
        have m' := m.grow gr
        obtain ⟨⟨w, hw, ow⟩, hn⟩ := m'.ow i _ _ hi
        have hff : fp i = fp i := rfl
        generalize hA : fp i = A at ow hn
        cases ow with
        | sh _ => cases go
        | @obj _ a dx _ ws _ A' _ ha fa hz oa na =>
          have hl := oa.length
          refine ⟨.ref a, hw, a, (gOf X).ca c', dx, _, rfl, ha, M.cl, M.no, ?_, ?_⟩
          · rw [List.length_zip]
            have : (cflds c').length ≤ 8 := by
              unfold cflds
              split <;> decide
            omega
          · rw [putF_zip M.nd (by rw [hl]; exact hf)]
            have ain : a ∈ fp i := by rw [hA]; exact List.mem_cons_self
            have aB : a ∉ B := fun z => by
              obtain ⟨⟨_, q1, q2⟩, _⟩ := m.ow i _ _ hi
              obtain ⟨_, u, e⟩ := q2.there a ain
              rw [nb a z] at e
              cases e
            have AB : ∀ b ∈ A', b ∉ B := fun b hb z => by
              obtain ⟨⟨_, q1, q2⟩, _⟩ := m.ow i _ _ hi
              obtain ⟨_, u, e⟩ := q2.there b (by rw [hA]; exact List.mem_cons_of_mem _ hb)
              rw [nb b z] at e
              cases e
            have q : Own (gOf X) F' (upd H' a (.ins ((gOf X).ca c') dx ((cflds c').zip (ws ++ [v])))) (g.setKid vs.length s) (.ref a) (.obj c' (vs ++ [d])) (a :: (A' ++ B)) := by
              refine .obj (Shape.setKid_own go) upd_same fa ?_ (OwnAll.snoc (f := g.kid) (ob.keep (Keep.upd aB)) (oa.keep (Keep.upd na)) (fun j _ hj => ?_) ?_ AB) fun z => (List.mem_append.mp z).elim na aB
              · rw [List.length_append]
                have := (List.getElem?_eq_some_iff.mp hf).1
                simp only [List.length_cons, List.length_nil]
                omega
              · exact Shape.setKid_lt (by omega)
              · rw [Nat.zero_add, hl]
                exact Shape.setKid_at gf
            obtain ⟨fp', m2⟩ := m'.write hi hw ain q fun b hb => by
              rcases List.mem_cons.mp hb with z | z
              · exact .inl (by rw [hA, z]; exact List.mem_cons_self)
              · rcases List.mem_append.mp z with z | z
                · exact .inl (by rw [hA]; exact List.mem_cons_of_mem _ z)
                · refine .inr (.inr ⟨m.s0.free (nb b z), fun j ne t e h y => ?_⟩)
                  obtain ⟨⟨_, _, q2⟩, _⟩ := m.ow j t e h
                  obtain ⟨_, u, e⟩ := q2.there b y
                  rw [nb b z] at e
                  cases e
            exact o' fp' F' σ _ (Same.refl _) m2
      · exact o'.elim
    · exact o'.elim⟩
/-- self.f = e, shared -/
theorem rs_fldS (i c : Nat) {x : Str} (M : ClM X.K (gOf X).ca f c) (he : RE X W .S e fe) (hN : X.N[i]? = some x := by rfl) (hv : Vis X.env.scope x := by first | exact Or.inl rfl | exact Or.inr (Or.inl rfl)) (hd : (x == ("__debug__" : Str)) = false := by decide)
    (hcd : (x == ("__classdict__" : Str)) = false := by decide) (hs : swapsWith e (some (.Attribute (.Name x ps) f p')) pos.line X.env = pure false := by rfl) :
    RS X W k (.Assign [.Attribute (.Name x ps) f p'] e pos) (fun r => lift (fe r) r fun d => setF i c f .sh d r) :=
  rs_fldO i c M (re_shO he) hN hv hd hcd hs
end
end Mir
namespace Mir
open PySem PySem.Spec PyProof.Rows L2
variable [Tn]
abbrev veT : List Value := [.type "ValueError", .type "Exception", .type "BaseException", .type "object"]
/-- an own error class without own __init__ -/
structure ExM0 (K : PySem.W.Frag) (mg : Str → Option Value) (C : Addr) (c : Nat) : Prop where
  gC : mg (cname c) = some (.ref C)
  ex : PySem.W.excIn K C veT "ValueError.__new__" = true
  kC : PySem.W.keepIn K (.ref C) = true
  sb : PySem.W.subIn K (.ref C) (.type "BaseException") = some true
  ty : PySem.W.typeIn K (.ref C) = some (.type "type")
  no : cflds c = []
/-- the promise of an error's __init__: the attributes fl, the last one stored first in it -/
def spE (C : Addr) (fl : List Str) : Sp := fun vs H Q _ => ∃ (a : Addr) (ys : List V), vs = .ref a :: ys ∧ ys.length = fl.length ∧ H a = some (exo a C none) ∧ ∀ dx, H dx = none → dx ≠ a → Q .non (upd (upd H dx (exd dx (fl.zip ys.reverse))) a (exo a C (some dx)))
/-- an own error class with an __init__ that stores what it is given -/
structure ExMA (P : Program) (w : World) (K : PySem.W.Frag) (mg : Str → Option Value) (base : Heap) (C : Addr) (c : Nat) : Prop where
  gC : mg (cname c) = some (.ref C)
  T : OexC K C
  ex : ∃ (f : Addr) (fd : FuncData) (ps : List Str), FnOk P w K mg base (L2.CX P w) 1 f fd ps (spE C (cflds c)) ∧ PySem.W.findIn K (.ref C) "__init__" = some (some (.ref f)) ∧ PySem.W.typeIn K (.ref f) = some (.type "function") ∧ Binds K fd ps []
theorem ca_of {G : GC} {c : Nat} {C : Addr} (h : G.mg (cname c) = some (.ref C)) : G.ca c = C := by
  unfold GC.ca
  rw [h]
section
variable {X : Cx} {W : Wi} {k : Kd} {C : Addr} {c : Nat} {x : Str} {p pos pos2 : Pos} {e : Expr} {es : List Expr}
/-- X() -/
theorem pmk_own0 (M : ExM0 X.K X.mg C c) (hx : x = cname c) (hg : Gl X x) (hdb : (x == ("__debug__" : Str)) = false) : PMk X (.Call (.Name x p) [] [] pos) (fun _ H Q => Q (.ref C) none H) := by
  subst hx
  intro pins s σ H Q I h
  refine wpAny_Call_Name_kw (ld_glob I hg M.gC ?_ hdb)
  refine PySem.W.callWith_K0 I.kIn M.kC ?_
  obtain ⟨bm, N, nm, qn, bs, hdct, sn, sub, ab, col, dd, k0, k1, k2, k3, k5, mN, hC, hN, hni, T⟩ := exc_obj I.kIn M.ex
  refine wpAny_call_exc_subT PySem.F.excBase_ValueError T hC hN hni (fun h' e hm => ?_) (Nat.zero_le _)
  exact mk_of I hm (raises_own M.sb M.ty) h (I.hok.gone hm.new)
theorem rs_raise0 (M : ExM0 X.K X.mg C c) (hc : X.calm = true) (tk : Takes X W.w) (hx : x = cname c := by rfl) (hg : Gl X x := by rfl) (hdb : (x == ("__debug__" : Str)) = false := by decide) :
    RS X W k (.Raise (some (.Call (.Name x p) [] [] pos)) none pos2) (fun r => .er (.exc c []) r) :=
  (ps_raise hc tk (pmk_own0 M hx hg hdb)).imp fun D σ H ⟨H0, F0, fp, F, r, m, o⟩ =>
    o fp F σ H _ _ (Same.refl _) m ⟨c, [], [], rfl, by rw [ca_of (G := gOf X) M.gC], .nil, .inl ⟨rfl, M.no, rfl⟩⟩
/-- X(e, ..) -/
theorem rs_raise (M : ExMA X.prog X.w X.K X.mg X.base C c) (hc : X.calm = true) (tk : Takes X W.w) (hr : Room 2 X.A) {fa : Env → Res (List D)} (ha : RA X W (e :: es) fa) (hl : (e :: es).length ≤ 1000 := by decide) (hx : x = cname c := by rfl) (hg : Gl X x := by rfl) (hdb : (x == ("__debug__" : Str)) = false := by decide)
    (he : starEach (e :: es) X.env = (false, eval e X.env) :: starEach es X.env := by rfl) (hpl : (backTo pos (starEach es X.env)).any (·.1) = false := by rfl) :
    RS X W k (.Raise (some (.Call (.Name x p) (e :: es) [] pos)) none pos2) (fun r => lift (fa r) r fun ds => if ds.length = (cflds c).length ∧ ds.length ≤ 1000 then .er (.exc c ds.reverse) r else .bad) := by
  subst hx
  obtain ⟨f, fd, ps, F1, iC, tI, hb⟩ := M.ex
  refine (ps_raise hc tk (pmk_oex M.T iC tI F1 hr hb .nil (passL (X := X)) hg M.gC ha hdb he hpl)).imp fun D σ H ⟨H0, F0, fp, F, r, m, o⟩ => ⟨H0, F0, fp, F, r, m, o.lift m fun F' H' ds gr o' vs rv => ?_⟩
  split at o'
  · rename_i hl
    have hlen := rv.length
    refine ⟨by omega, fun a na => ⟨a, vs, by simp, by omega, upd_same, fun dx ndx ne => ⟨rfl, dx, _, upd_same, by rw [upd_ne ne, upd_same], ?_, ?_⟩⟩⟩
    · rw [upd_ne ne] at ndx
      exact ndx
    · rw [upd_ne ne] at ndx
      have eH : upd (del (upd (upd (upd H' a (exo a C none)) dx (exd dx ((cflds c).zip vs.reverse))) a (exo a C (some dx))) a) dx (.xd ((cflds c).zip vs.reverse)) = upd H' dx (.xd ((cflds c).zip vs.reverse)) := by
        funext b
        by_cases hb : b = dx
        · rw [hb, upd_same, upd_same]
        · rw [upd_ne hb, upd_ne hb]
          by_cases ha : b = a
          · rw [ha, del_same, na]
          · rw [del_ne ha, upd_ne ha, upd_ne hb, upd_ne ha]
      rw [eH]
      have nF : F' dx = none := gr.sub.free ndx
      have s1 : Same F' (upd F' dx (.xd ((cflds c).zip vs.reverse))) := fun b u q => by rw [upd_ne (ne_of_none q nF)]; exact q
      have g2 : Grow F' H' (upd F' dx (.xd ((cflds c).zip vs.reverse))) (upd H' dx (.xd ((cflds c).zip vs.reverse))) := Grow.of
        (fun b u q => by rw [upd_ne (ne_of_none q ndx)]; exact q)
        s1
        (fun b u q => by
          by_cases hb : b = dx
          · subst hb; rw [upd_same] at q ⊢; exact q
          · rw [upd_ne hb] at q ⊢; exact gr.sub b u q)
        (fun b u q => by
          by_cases hb : b = dx
          · subst hb; exact .inr ndx
          · rw [upd_ne hb] at q; exact .inl q)
      exact o' fp _ σ _ _ _ g2.f ((m.grow gr).grow g2) ⟨c, vs.reverse, ds.reverse, rfl, by rw [ca_of (G := gOf X) M.gC], (rv.mono s1).reverse, .inr ⟨dx, rfl, upd_same, by rw [List.length_reverse]; omega⟩⟩
  · exact o'.elim
end
section
variable {P : Program} {w : World} {K : PySem.W.Frag} {mg : Str → Option Value} {base : Heap} {C f : Addr} {fd : FuncData} {st : Stmt} {qual fn gn pn qn : Str}
theorem exc1_ok (F : Fun K "__init__" qual st f fd) (S : FnScope ([("self" : Str), pn]) ([("self" : Str), pn]) (defScope st)) (T : OexC K C) (no : PySem.W.findIn K (.ref C) fn = some none)
    (hb : ∀ X : Cx, X.N = [("self" : Str), pn] → X.env.scope = defScope st → PSs X (defBody st) (tOst X.K fn (tVar 0) (tVar 1))) : FnOk P w K mg base (L2.CX P w) 1 f fd [("self" : Str), pn] (spE C [fn]) := by
  refine F.okX S (fun vs H Q E ⟨a, ys, e, hl, _⟩ => by rw [e, List.length_cons, hl]; rfl) fun cdv A outer s H vs Q E hr ⟨a, ys, e, hl, ha, k⟩ => ?_
  subst e
  match ys, hl with
  | [y], _ => exact ⟨_, hb _ rfl rfl, _, rfl, _, rfl, a, C, rfl, T, no, .inl ⟨ha, fun dx nd ne => k dx nd ne⟩⟩
theorem exc2_ok (F : Fun K "__init__" qual st f fd) (S : FnScope ([("self" : Str), pn, qn]) ([("self" : Str), pn, qn]) (defScope st)) (T : OexC K C) (no : PySem.W.findIn K (.ref C) fn = some none) (no2 : PySem.W.findIn K (.ref C) gn = some none)
    (hb : ∀ X : Cx, X.N = [("self" : Str), pn, qn] → X.env.scope = defScope st → PSs X (defBody st) (tSeq (tOst X.K fn (tVar 0) (tVar 1)) (tOst X.K gn (tVar 0) (tVar 2)))) : FnOk P w K mg base (L2.CX P w) 1 f fd [("self" : Str), pn, qn] (spE C [gn, fn]) := by
  refine F.okX S (fun vs H Q E ⟨a, ys, e, hl, _⟩ => by rw [e, List.length_cons, hl]; rfl) fun cdv A outer s H vs Q E hr ⟨a, ys, e, hl, ha, k⟩ => ?_
  subst e
  match ys, hl with
  | [y, z], _ =>
    refine ⟨_, hb _ rfl rfl, _, rfl, _, rfl, a, C, rfl, T, no, .inl ⟨ha, fun dx nd ne => ⟨_, rfl, _, rfl, a, C, rfl, T, no2, .inr ⟨dx, [(fn, y)], upd_same, by rw [upd_ne ne, upd_same], (by show 1 ≤ 900; decide), ?_⟩⟩⟩⟩
    have q := k dx nd ne
    have eH : upd (upd (upd H dx (exd dx [(fn, y)])) a (exo a C (some dx))) dx (exd dx [(gn, z), (fn, y)]) = upd (upd H dx (exd dx [(gn, z), (fn, y)])) a (exo a C (some dx)) := by
      funext b
      by_cases hb : b = dx
      · rw [hb, upd_same, upd_ne ne, upd_same]
      · rw [upd_ne hb]
        by_cases hba : b = a
        · rw [hba, upd_same, upd_same]
        · rw [upd_ne hba, upd_ne hb, upd_ne hba, upd_ne hb]
    show Q .non _
    rw [eH]
    exact q
end
end Mir
namespace Mir
open PySem PySem.Spec PyProof.Rows L2
variable [Tn]
/-- the longest list that is looked after -/
def lim : Nat := 1000000
theorem lim_le : lim ≤ sizeLine := by rw [sizeLine_eq]; decide
section
variable {G : GC} {F H F' H' : Hp} {v : V} {d : D}
theorem RdD.grow (h : RdD G F H v d) (g : Grow F H F' H') : RdD G F' H' v d := h.elim (fun r => .inl (r.mono g.f)) fun ⟨A, o⟩ => .inr ⟨A, o.grow g⟩
theorem RdD.int {i : Int} (h : RdD G F H v (.int i)) : v = .int i := by
  rcases h with h | ⟨A, h⟩ <;> cases h
  rfl
theorem RdD.bl {i : Bool} (h : RdD G F H v (.bl i)) : v = .bl i := by
  rcases h with h | ⟨A, h⟩ <;> cases h
  rfl
theorem RdD.str {i : Str} (h : RdD G F H v (.str i)) : v = .str i := by
  rcases h with h | ⟨A, h⟩ <;> cases h
  rfl
theorem RdD.non (h : RdD G F H v .non) : v = .non := by
  rcases h with h | ⟨A, h⟩ <;> cases h
  rfl
theorem RdD.lst {ds : List D} (s : Same F H) (h : RdD G F H v (.lst ds)) : ∃ a vs, v = .ref a ∧ H a = some (.lst vs) ∧ RepAll G F vs ds := by
  rcases h with h | ⟨A, h⟩
  · cases h with
    | lst e r => exact ⟨_, _, rfl, s _ _ e, r⟩
  · cases h with
    | lst _ e _ r _ => exact ⟨_, _, rfl, e, r.to_rep.2⟩
theorem RdD.tupS {ds : List D} (h : RdD G F H v (.tup ds)) : Rep G F v (.tup ds) := by
  rcases h with h | ⟨A, h⟩
  · exact h
  · cases h with
    | tup e => cases e
theorem RdD.tup {ds : List D} (s : Same F H) (h : RdD G F H v (.tup ds)) : ∃ a vs, v = .ref a ∧ SqT G.K H a vs ∧ RepAll G F vs ds := by
  cases h.tupS with
  | tup e r => exact ⟨_, _, rfl, Same.sqT s e, r⟩
theorem RdD.scr {ns : List Int} (s : Same F H) (h : RdD G F H v (.scr ns)) : ∃ a, v = .ref a ∧ SqL G.K H a (ns.map V.int) := by
  rcases h with h | ⟨A, h⟩
  · cases h with
    | scr e => exact ⟨_, rfl, s.seq e⟩
  · cases h
theorem RdD.obj {c : Nat} {vs : List D} (s : Same F H) (h : RdD G F H v (.obj c vs)) : ∃ a dx fs, v = .ref a ∧ H a = some (.ins (G.ca c) dx fs) := by
  rcases h with h | ⟨A, h⟩
  · cases h with
    | obj e _ _ => exact ⟨_, _, _, rfl, s _ _ e⟩
  · cases h with
    | obj _ e _ _ _ _ => exact ⟨_, _, _, rfl, e⟩
theorem RdD.dic {ks vs : List D} (s : Same F H) (h : RdD G F H v (.dic ks vs)) : ∃ a o xs ws, v = .ref a ∧ H a = some (.ext (isObj' a o)) ∧ (a == sysModules) = false ∧ DicO G o xs ∧ Vals ws (xs.map (·.2.2)) ∧ RepAll G F (xs.map fun x => V.ref x.2.1) ks ∧ ks.map keyOf = xs.map (fun x => some x.1) ∧ RepAll G F ws vs := by
  rcases h with h | ⟨A, h⟩
  · cases h with
    | dic e z1 z2 z3 z4 z5 r => exact ⟨_, _, _, _, rfl, s _ _ e, z1, z2, z3, z4, z5, r⟩
  · cases h with
    | dic _ e _ z1 z2 z3 z4 z5 r _ => exact ⟨_, _, _, _, rfl, e, z1, z2, z3, z4, z5, r.to_rep.2⟩
/-- a new object, shared -/
theorem Grow.mk1 {p : Addr} {o : HO} (s : Same F H) (hp : H p = none) : Grow F H (upd F p o) (upd H p o) := Grow.of
  (fun b u q => by rw [upd_ne (ne_of_none q hp)]; exact q)
  (fun b u q => by rw [upd_ne (ne_of_none (s b u q) hp)]; exact q)
  (fun b u q => by
    by_cases hb : b = p
    · subst hb; rw [upd_same] at q ⊢; exact q
    · rw [upd_ne hb] at q ⊢; exact s b u q)
  (fun b u q => by
    by_cases hb : b = p
    · subst hb; exact .inr hp
    · rw [upd_ne hb] at q; exact .inl q)
/-- a new object, one's own -/
theorem Grow.own {p : Addr} {o : HO} (s : Same F H) (hp : H p = none) : Grow F H F (upd H p o) := Grow.of
  (fun b u q => by rw [upd_ne (ne_of_none q hp)]; exact q)
  (Same.refl _)
  (fun b u q => by rw [upd_ne (ne_of_none (s b u q) hp)]; exact s b u q)
  (fun b u q => .inl q)
end
def toPy : D → Option PyData
  | .non => some .none
  | .bl b => some (.bool b)
  | .int i => some (.int i)
  | .str s => some (.str s)
  | .tup xs => (toPys xs).map .tuple
  | .lst xs => (toPys xs).map .list
  | _ => none
where toPys : List D → Option (List PyData)
  | [] => some []
  | x :: xs => match toPy x, toPys xs with
    | some p, some ps => some (p :: ps)
    | _, _ => none
mutual
theorem Rep.dp {G : GC} {F H : Hp} (s : Same F H) : ∀ {v : V} {d : D} {p : PyData}, Rep G F v d → toPy d = some p → Dp G.K H v p
  | _, _, _, .non, e => by simp only [toPy, Option.some.injEq] at e; subst e; exact .non
  | _, _, _, .bl b, e => by simp only [toPy, Option.some.injEq] at e; subst e; exact .bl b
  | _, _, _, .int i, e => by simp only [toPy, Option.some.injEq] at e; subst e; exact .int i
  | _, _, _, .str x, e => by simp only [toPy, Option.some.injEq] at e; subst e; exact .str x
  | _, _, _, .tup h r, e => by
    simp only [toPy, Option.map_eq_some_iff] at e
    obtain ⟨ps, e1, e2⟩ := e
    subst e2
    exact .tup (Same.sqT s h) (RepAll.dp s r e1)
  | _, _, _, .lst h r, e => by
    simp only [toPy, Option.map_eq_some_iff] at e
    obtain ⟨ps, e1, e2⟩ := e
    subst e2
    exact .lst (.of (s _ _ h)) (RepAll.dp s r e1)
  | _, _, _, .scr _, e => by simp [toPy] at e
  | _, _, _, .dic _ _ _ _ _ _ _, e => by simp [toPy] at e
  | _, _, _, .obj _ _ _, e => by simp [toPy] at e
  | _, _, _, .exc _ _, e => by simp [toPy] at e
  | _, _, _, .excF _ _ _ _, e => by simp [toPy] at e
  | _, _, _, .cls _, e => by simp [toPy] at e
  | _, _, _, .ty _, e => by simp [toPy] at e
theorem RepAll.dp {G : GC} {F H : Hp} (s : Same F H) : ∀ {vs : List V} {ds : List D} {ps : List PyData}, RepAll G F vs ds → toPy.toPys ds = some ps → DpAll G.K H vs ps
  | _, _, _, .nil, e => by simp only [toPy.toPys, Option.some.injEq] at e; subst e; exact .nil
  | _, _, _, .cons r t, e => by
    rw [toPy.toPys] at e
    split at e
    · rename_i p ps h1 h2
      cases e
      exact .cons (Rep.dp s r h1) (RepAll.dp s t h2)
    · cases e
end
theorem RdD.dp {G : GC} {F H : Hp} {v : V} {d : D} {p : PyData} (s : Same F H) (h : RdD G F H v d) (e : toPy d = some p) : Dp G.K H v p := by
  rcases h with h | ⟨A, h⟩
  · exact h.dp s e
  · cases h with
    | lst _ h _ r _ =>
      simp only [toPy, Option.map_eq_some_iff] at e
      obtain ⟨ps, e1, e2⟩ := e
      subst e2
      exact .lst (.of h) (r.to_rep.2.dp s e1)
    | tup z => cases z
    | dic => simp [toPy] at e
    | obj => simp [toPy] at e
def addD : D → D → Res D
  | .int i, .int j => .ok (.int (i + j))
  | .str s, .str t => if s.length + t.length ≤ lim then .ok (.str (s ++ t)) else .bad
  | .tup xs, .tup ys => if xs.length + ys.length ≤ lim then .ok (.tup (xs ++ ys)) else .bad
  | .lst xs, .lst ys => if xs.length + ys.length ≤ lim then .ok (.lst (xs ++ ys)) else .bad
  | _, _ => .bad
def subD : D → D → Res D
  | .int i, .int j => .ok (.int (i - j))
  | _, _ => .bad
/-- the bits of a number -/
def bits (i : Int) : Nat := i.natAbs.log2
instance (i j : Int) : Decidable (CMul i j) := by unfold CMul; infer_instance
def mulD : D → D → Res D
  | .int i, .int j => if bits i + bits j < 1000000 ∨ CMul i j then .ok (.int (i * j)) else .bad
  | .lst xs, .int k => if k ≤ 1000 ∧ 0 ≤ k ∧ xs.length ≤ 1000 then .ok (.lst (List.replicate k.toNat xs).flatten) else .bad
  | .tup xs, .int k => if k ≤ 1000 ∧ 0 ≤ k ∧ xs.length ≤ 1000 then .ok (.tup (List.replicate k.toNat xs).flatten) else .bad
  | _, _ => .bad
def modD : D → D → Res D
  | .int i, .int j => if 0 < j then .ok (.int (i % j)) else .bad
  | _, _ => .bad
def divD : D → D → Res D
  | .int i, .int j => if 0 < j ∧ bits j < 9000 then .ok (.int (i / j)) else .bad
  | _, _ => .bad
def cmpD (p : Int → Int → Bool) : D → D → Res D
  | .int i, .int j => .ok (.bl (p i j))
  | _, _ => .bad
def eqS (a b : D) : Res D := match toPy a, toPy b with
  | some p, some q => if SeqAt.shaped p = true ∧ SeqAt.shaped q = true then .ok (.bl (PyData.eqv p q)) else .bad
  | _, _ => .bad
def neS (a b : D) : Res D := match toPy a, toPy b with
  | some p, some q => if SeqAt.shaped p = true ∧ SeqAt.shaped q = true then .ok (.bl (!PyData.eqv p q)) else .bad
  | _, _ => .bad
def isN : D → D → Res D
  | .non, .non => .ok (.bl true)
  | _, .non => .ok (.bl false)
  | _, _ => .bad
section
variable {X : Cx}
theorem opD_I {rr : R2} {op : D → D → Res D} (h : ∀ a b d, op a b = .ok d → ∃ i j r, a = .int i ∧ b = .int j ∧ (∀ F, Rep (gOf X) F r d) ∧ ∀ (H : Hp) (Q : VK), Q r H → rr (.int i) (.int j) H Q) : OpD (gOf X) rr .R .R .S op := fun F H x y a b d Q Ha Hb s ka kb e k => by
  obtain ⟨i, j, r, rfl, rfl, hr, q⟩ := h a b d e
  rw [RdD.int (show RdD _ _ _ x _ from ka), RdD.int (show RdD _ _ _ y _ from kb)]
  exact q H Q (k r F H (Grow.refl s) (hr F))
theorem sub_ok : OpD (gOf X) (rI0 fun i j => .int (i - j)) .R .R .S subD := opD_I fun a b d e => by
  unfold subD at e
  split at e <;> cases e
  exact ⟨_, _, _, rfl, rfl, fun F => .int _, fun H Q q => ⟨_, _, rfl, rfl, q⟩⟩
theorem mod_ok : OpD (gOf X) (rI (fun _ j => 0 < j) fun i j => .int (i % j)) .R .R .S modD := opD_I fun a b d e => by
  unfold modD at e
  split at e
  · split at e <;> cases e
    rename_i h
    exact ⟨_, _, _, rfl, rfl, fun F => .int _, fun H Q q => ⟨_, _, rfl, rfl, h, q⟩⟩
  · cases e
theorem div_ok : OpD (gOf X) (rI CDivW fun i j => .int (i / j)) .R .R .S divD := opD_I fun a b d e => by
  unfold divD at e
  split at e
  · split at e <;> cases e
    rename_i h
    exact ⟨_, _, _, rfl, rfl, fun F => .int _, fun H Q q => ⟨_, _, rfl, rfl, h, q⟩⟩
  · cases e
theorem cmp_ok {p : Int → Int → Bool} : OpD (gOf X) (rI0 fun i j => .bl (p i j)) .R .R .S (cmpD p) := opD_I fun a b d e => by
  unfold cmpD at e
  split at e <;> cases e
  exact ⟨_, _, _, rfl, rfl, fun F => .bl _, fun H Q q => ⟨_, _, rfl, rfl, q⟩⟩
theorem eq_ok : OpD (gOf X) (rEqD X.K) .R .R .S eqS := fun F H x y a b d Q Ha Hb s ka kb e k => by
  unfold eqS at e
  split at e
  · rename_i p q h1 h2
    split at e <;> cases e
    rename_i h
    exact ⟨p, q, RdD.dp s (show RdD (gOf X) F H x a from ka) h1, RdD.dp s (show RdD (gOf X) F H y b from kb) h2, h.1, h.2, k _ F H (Grow.refl s) (.bl _)⟩
  · cases e
theorem ne_ok : OpD (gOf X) (rNeD X.K) .R .R .S neS := fun F H x y a b d Q Ha Hb s ka kb e k => by
  unfold neS at e
  split at e
  · rename_i p q h1 h2
    split at e <;> cases e
    rename_i h
    exact ⟨p, q, RdD.dp s (show RdD (gOf X) F H x a from ka) h1, RdD.dp s (show RdD (gOf X) F H y b from kb) h2, h.1, h.2, k _ F H (Grow.refl s) (.bl _)⟩
  · cases e
theorem RdD.non_iff {G : GC} {F H : Hp} {v : V} {d : D} (h : RdD G F H v d) : decide (v = .non) = (match d with | .non => true | _ => false) := by
  rcases h with h | ⟨A, h⟩ <;> cases h <;> simp
theorem isN_ok : OpD (gOf X) (fun x y H Q => y = .non ∧ Q (.bl (decide (x = .non))) H) .R .R .S isN := fun F H x y a b d Q Ha Hb s ka kb e k => by
  have z := RdD.non_iff (show RdD (gOf X) F H x a from ka)
  unfold isN at e
  split at e <;> cases e
  · exact ⟨RdD.non kb, by rw [z]; exact k _ F H (Grow.refl s) (.bl _)⟩
  · refine ⟨RdD.non kb, ?_⟩
    have z2 : decide (x = .non) = false := by
      rw [z]
      split
      · rename_i h; exact absurd rfl h
      · rfl
    rw [z2]
    exact k _ F H (Grow.refl s) (.bl _)
def rAddA (K : PySem.W.Frag) : R2 := fun x y H Q => (rI0 (fun i j => .int (i + j)) x y H Q ∨ ∃ i j, x = .str i ∧ y = .str j ∧ i.length + j.length ≤ sizeLine ∧ Q (.str (i ++ j)) H) ∨ (rCatA K x y H Q ∨ rCat x y H Q)
theorem op_addA : OpR X (binaryOp .Add) (rAddA X.K) := (op_add.or op_add_str).or (op_catA.or op_cat)
theorem add_ok : OpD (gOf X) (rAddA X.K) .R .R .S addD := fun F H x y a b d Q Ha Hb s ka kb e k => by
  have ka : RdD (gOf X) F H x a := ka
  have kb : RdD (gOf X) F H y b := kb
  unfold addD at e
  split at e
  · cases e
    exact .inl (.inl ⟨_, _, ka.int, kb.int, k _ F H (Grow.refl s) (.int _)⟩)
  · split at e <;> cases e
    rename_i h
    exact .inl (.inr ⟨_, _, ka.str, kb.str, Nat.le_trans h lim_le, k _ F H (Grow.refl s) (.str _)⟩)
  · split at e <;> cases e
    rename_i h
    obtain ⟨p, vs, rfl, h1, r1⟩ := ka.tup s
    obtain ⟨q, ws, rfl, h2, r2⟩ := kb.tup s
    refine .inr (.inl ⟨p, q, vs, ws, rfl, rfl, h1, h2, Nat.le_trans (by rw [r1.length, r2.length]; exact h) lim_le, fun z => ?_, fun _ z => ?_, fun _ _ t ht => ?_⟩)
    · subst z
      cases r1
      exact k _ F H (Grow.refl s) kb.tupS
    · subst z
      cases r2
      rw [List.append_nil] at k
      exact k _ F H (Grow.refl s) ka.tupS
    · exact k _ _ _ (Grow.mk1 s ht) (Rep.tup (.of upd_same) ((r1.append r2).mono (Grow.mk1 s ht).f))
  · split at e <;> cases e
    rename_i h
    obtain ⟨p, vs, rfl, h1, r1⟩ := ka.lst s
    obtain ⟨q, ws, rfl, h2, r2⟩ := kb.lst s
    exact .inr (.inr ⟨p, q, vs, ws, rfl, rfl, h1, h2, Nat.le_trans (by rw [r1.length, r2.length]; exact h) lim_le, fun t ht => k _ _ _ (Grow.mk1 s ht) (Rep.lst upd_same ((r1.append r2).mono (Grow.mk1 s ht).f))⟩)
  · cases e
theorem rep_all {G : GC} {F : Hp} {vs : List V} {ds : List D} (r : RepAll G F vs ds) : ∀ n : Nat, RepAll G F (List.replicate n vs).flatten (List.replicate n ds).flatten
  | 0 => .nil
  | n + 1 => by
    rw [List.replicate_succ, List.flatten_cons, List.replicate_succ, List.flatten_cons]
    exact r.append (rep_all r n)
theorem tuple_mulOne (l : Addr) (items : Array Value) (n : Nat) (dd : Option Addr) (sl : Array (Option Value)) (x : Int) (u : Tok) (c0 : (decide (x < -(2 ^ 63)) || decide (x ≥ 2 ^ 63)) = false) (c1 : (items.isEmpty || x == 1) = true) :
    Meets (Builtin.«tuple.__mul__» ⟨[.ref l, .int x u], []⟩) (fun _ R s => s.heap.get? l = some { cls := .type "tuple", dict := dd, data := .seq items n, slots := sl } ∧
      R (.ok (.ret (Value.ref l))) s) :=
  .of_wp fun prog w A R s h => by
    obtain ⟨hp, g, d, tk, os⟩ := s
    obtain ⟨hl, h⟩ := h
    have f1 := AutoSeq1.idx_int
    wp_walk using wpAny_loadPart' hl
    repeat (first
      | (refine wpAny_ite_false (decide_eq_false (by rw [c0]; exact Bool.false_ne_true)) ?_; wp_walk using wpAny_loadPart' hl)
      | (refine wpAny_ite_true (decide_eq_true (by rw [c1])) ?_; wp_walk using wpAny_loadPart' hl))
    exact ⟨_, rfl, h⟩
theorem tuple_mulNone (l : Addr) (items : Array Value) (n : Nat) (dd : Option Addr) (sl : Array (Option Value)) (x : Int) (u : Tok) (c0 : (decide (x < -(2 ^ 63)) || decide (x ≥ 2 ^ 63)) = false) (c1 : (items.isEmpty || x == 1) = false) (c2 : (decide (x ≤ 0) || items.isEmpty) = true) :
    Meets (Builtin.«tuple.__mul__» ⟨[.ref l, .int x u], []⟩) (fun _ R s => s.heap.get? l = some { cls := .type "tuple", dict := dd, data := .seq items n, slots := sl } ∧
      R (.ok (.ret (Value.ref s.heap.objs.size))) { s with heap := s.heap.push { cls := Value.type "tuple", data := Data.seq #[] }, toks := s.toks }) :=
  .of_wp fun prog w A R s h => by
    obtain ⟨hp, g, d, tk, os⟩ := s
    obtain ⟨hl, h⟩ := h
    have f1 := AutoSeq1.idx_int
    wp_walk using wpAny_loadPart' hl
    repeat (first
      | (refine wpAny_ite_false (decide_eq_false (by rw [c0]; exact Bool.false_ne_true)) ?_; wp_walk using wpAny_loadPart' hl)
      | (refine wpAny_ite_false (decide_eq_false (by rw [c1]; exact Bool.false_ne_true)) ?_; wp_walk using wpAny_loadPart' hl)
      | (refine wpAny_ite_true (decide_eq_true (by rw [c2])) ?_; wp_walk using wpAny_loadPart' hl))
    exact ⟨_, rfl, h⟩
def rRepT1 (K : PySem.W.Frag) : R2 := fun x y H Q => ∃ l k xs, x = .ref l ∧ y = .int k ∧ SqT K H l xs ∧ (xs = [] ∨ k = 1) ∧ 0 ≤ k ∧ k ≤ 1000 ∧ Q (.ref l) H
def rRepT0 (K : PySem.W.Frag) : R2 := fun x y H Q => ∃ l xs, x = .ref l ∧ y = .int 0 ∧ SqT K H l xs ∧ xs ≠ [] ∧ ∀ p, H p = none → Q (.ref p) (upd H p (.tup []))
theorem op_repT1 {X : Cx} : OpR X (binaryOp .Mult) (rRepT1 X.K) := by
  intro pins s σ H x y v u Q I rx ry h
  obtain ⟨l, k, xs, rfl, rfl, hT, hne, h1, h2, q⟩ := h
  cases rx
  obtain ⟨t, rfl⟩ := ry
  obtain ⟨its, r, ⟨⟨cls, dd, data, sl⟩, ho, hc, n, hd⟩, hs⟩ := I.tuple hT
  simp only at hc hd
  subst hc hd
  have hle : its.length = xs.length := r.length.symm
  have c0 : (decide (k < -(2 ^ 63)) || decide (k ≥ 2 ^ 63)) = false := by
    rw [decide_eq_false (by omega), decide_eq_false (by omega)] <;> rfl
  have c1 : (its.toArray.isEmpty || k == 1) = true := by
    rcases hne with rfl | rfl
    · have : its = [] := List.eq_nil_of_length_eq_zero hle
      subst this
      rfl
    · simp
  refine wpAny_binaryOp_repeat_ref (T := "tuple") (U := "int") (by decide) ⟨_, ho, rfl⟩ (fun s' => typeIs_int s' k t) noFill_tuple_mul F.fills_int_mul F.slot_int_rmul repeat_tuple F.slot_int_index.lookup
    (call_meets F.slot_int_rmul (typeIs_int s k t) F.entry_int_rmul (F.args_int_rmul_2 _ _) (int_rmul_tuple k t l its.toArray n dd sl)
      ⟨ho, rfl, ⟨_, ho, rfl⟩, call_meets F.slot_tuple_mul ⟨_, ho, rfl⟩ F.entry_tuple_mul (F.args_tuple_mul_2 _ _) (tuple_mulOne l its.toArray n dd sl k t c0 c1) ⟨ho, ?_⟩⟩)
  exact ⟨.ref l, _, I, rfl, q⟩
theorem op_repT0 {X : Cx} : OpR X (binaryOp .Mult) (rRepT0 X.K) := by
  intro pins s σ H x y v u Q I rx ry h
  obtain ⟨l, xs, rfl, rfl, hT, hne, q⟩ := h
  cases rx
  obtain ⟨t, rfl⟩ := ry
  obtain ⟨its, r, ⟨⟨cls, dd, data, sl⟩, ho, hc, n, hd⟩, hs⟩ := I.tuple hT
  simp only at hc hd
  subst hc hd
  have hle : its.length = xs.length := r.length.symm
  have hn : its ≠ [] := fun e => hne (by
    rw [e] at hle
    exact List.eq_nil_of_length_eq_zero hle.symm)
  have hi : its.toArray.isEmpty = false := by
    cases its with
    | nil => exact absurd rfl hn
    | cons a b => rfl
  have c0 : (decide ((0 : Int) < -(2 ^ 63)) || decide ((0 : Int) ≥ 2 ^ 63)) = false := by decide
  have c1 : (its.toArray.isEmpty || (0 : Int) == 1) = false := by rw [hi]; rfl
  have c2 : (decide ((0 : Int) ≤ 0) || its.toArray.isEmpty) = true := by simp
  refine wpAny_binaryOp_repeat_ref (T := "tuple") (U := "int") (by decide) ⟨_, ho, rfl⟩ (fun s' => typeIs_int s' 0 t) noFill_tuple_mul F.fills_int_mul F.slot_int_rmul repeat_tuple F.slot_int_index.lookup
    (call_meets F.slot_int_rmul (typeIs_int s 0 t) F.entry_int_rmul (F.args_int_rmul_2 _ _) (int_rmul_tuple 0 t l its.toArray n dd sl)
      ⟨ho, rfl, ⟨_, ho, rfl⟩, call_meets F.slot_tuple_mul ⟨_, ho, rfl⟩ F.entry_tuple_mul (F.args_tuple_mul_2 _ _) (tuple_mulNone l its.toArray n dd sl 0 t c0 c1 c2) ⟨ho, ?_⟩⟩)
  refine ⟨.ref s.heap.objs.size, _, I.laid (t' := s.toks) (o := .tup []) (fun b ob q => Heap.get?_push_of_some _ q) (Nat.le_refl _) ?_, rfl, q _ (I.hok.fresh (Nat.le_refl _))⟩
  exact ⟨by rw [sizeLine_eq]; simp, [], .nil, IsTup.new _ _⟩
def rMulA (K : PySem.W.Frag) : R2 := fun x y H Q => (rI CMulW (fun i j => .int (i * j)) x y H Q ∨ rI CMul (fun i j => .int (i * j)) x y H Q) ∨ (rRep x y H Q ∨ (rRepT K x y H Q ∨ (rRepT1 K x y H Q ∨ rRepT0 K x y H Q)))
theorem op_mulA : OpR X (binaryOp .Mult) (rMulA X.K) := (op_mulW.or op_mul).or (op_rep.or (op_repT.or (op_repT1.or op_repT0)))
theorem mul_ok : OpD (gOf X) (rMulA X.K) .R .R .S mulD := fun F H x y a b d Q Ha Hb s ka kb e k => by
  have ka : RdD (gOf X) F H x a := ka
  have kb : RdD (gOf X) F H y b := kb
  unfold mulD at e
  split at e
  · split at e <;> cases e
    rename_i h
    rcases h with h | h
    · exact .inl (.inl ⟨_, _, ka.int, kb.int, h, k _ F H (Grow.refl s) (.int _)⟩)
    · exact .inl (.inr ⟨_, _, ka.int, kb.int, h, k _ F H (Grow.refl s) (.int _)⟩)
  · split at e <;> cases e
    rename_i h
    obtain ⟨p, vs, rfl, h1, r1⟩ := ka.lst s
    refine .inr (.inl ⟨p, _, vs, rfl, kb.int, h1, by omega, by omega, ?_, fun t ht => k _ _ _ (Grow.mk1 s ht) (Rep.lst upd_same ((rep_all r1 _).mono (Grow.mk1 s ht).f))⟩)
    rw [sizeLine_eq, r1.length]
    exact Nat.le_trans (Nat.mul_le_mul h.2.2 (show _ ≤ 1000 by omega)) (by decide)
  · split at e <;> cases e
    rename_i h
    obtain ⟨p, vs, rfl, h1, r1⟩ := ka.tup s
    rename_i xs0 k0 _ _
    by_cases e0 : vs = []
    · subst e0
      cases r1
      refine .inr (.inr (.inr (.inl ⟨p, _, [], rfl, kb.int, h1, .inl rfl, by omega, by omega, k _ F H (Grow.refl s) ?_⟩)))
      rw [show (List.replicate (Int.toNat _) ([] : List D)).flatten = [] by simp]
      exact (RdD.tupS ka)
    · by_cases e1 : k0 = 1
      · subst e1
        refine .inr (.inr (.inr (.inl ⟨p, _, vs, rfl, kb.int, h1, .inr rfl, by omega, by omega, k _ F H (Grow.refl s) ?_⟩)))
        rw [show (List.replicate (Int.toNat 1) xs0).flatten = xs0 by simp]
        exact (RdD.tupS ka)
      · by_cases e2 : k0 = 0
        · subst e2
          refine .inr (.inr (.inr (.inr ⟨p, vs, rfl, kb.int, h1, e0, fun t ht => k _ _ _ (Grow.mk1 s ht) ?_⟩)))
          rw [show (List.replicate (Int.toNat 0) xs0).flatten = ([] : List D) by simp]
          exact Rep.tup (.of upd_same) .nil
        · refine .inr (.inr (.inl ⟨p, _, vs, rfl, kb.int, h1, e0, by omega, by omega, by rw [r1.length]; omega, fun t ht => k _ _ _ (Grow.mk1 s ht) (Rep.tup (.of upd_same) ((rep_all r1 _).mono (Grow.mk1 s ht).f))⟩))
  · cases e
/-- x in xs, a list or tuple of data -/
def inS (x xs : D) : Res D := match toPy x, toPy xs with
  | some p, some (.list ps) => if SeqAt.shaped p = true ∧ SeqAt.shaped (.list ps) = true then .ok (.bl (ps.any fun z => PyData.eqv z p)) else .bad
  | _, _ => .bad
def notInS (x xs : D) : Res D := match toPy x, toPy xs with
  | some p, some (.list ps) => if SeqAt.shaped p = true ∧ SeqAt.shaped (.list ps) = true then .ok (.bl (!ps.any fun z => PyData.eqv z p)) else .bad
  | _, _ => .bad
theorem in_ok : OpD (gOf X) (rInD X.K) .R .R .S inS := fun F H x y a b d Q Ha Hb s ka kb e k => by
  unfold inS at e
  split at e
  · rename_i p ps h1 h2
    split at e <;> cases e
    rename_i h
    exact ⟨p, ps, RdD.dp s (show RdD (gOf X) F H x a from ka) h1, RdD.dp s (show RdD (gOf X) F H y b from kb) h2, h.1, h.2, k _ F H (Grow.refl s) (.bl _)⟩
  · cases e
theorem notIn_ok : OpD (gOf X) (rNotInD X.K) .R .R .S notInS := fun F H x y a b d Q Ha Hb s ka kb e k => by
  unfold notInS at e
  split at e
  · rename_i p ps h1 h2
    split at e <;> cases e
    rename_i h
    exact ⟨p, ps, RdD.dp s (show RdD (gOf X) F H x a from ka) h1, RdD.dp s (show RdD (gOf X) F H y b from kb) h2, h.1, h.2, k _ F H (Grow.refl s) (.bl _)⟩
  · cases e
end
theorem ne_add : NoEr2 addD := fun a b e z => by unfold addD at z; split at z <;> (try split at z) <;> cases z
theorem ne_sub : NoEr2 subD := fun a b e z => by unfold subD at z; split at z <;> cases z
theorem ne_mul : NoEr2 mulD := fun a b e z => by unfold mulD at z; split at z <;> (try split at z) <;> cases z
theorem ne_mod : NoEr2 modD := fun a b e z => by unfold modD at z; split at z <;> (try split at z) <;> cases z
theorem ne_div : NoEr2 divD := fun a b e z => by unfold divD at z; split at z <;> (try split at z) <;> cases z
theorem ne_cmp {p : Int → Int → Bool} : NoEr2 (cmpD p) := fun a b e z => by unfold cmpD at z; split at z <;> cases z
theorem ne_eq : NoEr2 eqS := fun a b e z => by unfold eqS at z; split at z <;> (try split at z) <;> cases z
theorem ne_ne : NoEr2 neS := fun a b e z => by unfold neS at z; split at z <;> (try split at z) <;> cases z
theorem ne_isN : NoEr2 isN := fun a b e z => by unfold isN at z; split at z <;> cases z
theorem ne_in : NoEr2 inS := fun a b e z => by unfold inS at z; split at z <;> (try split at z) <;> cases z
theorem ne_notIn : NoEr2 notInS := fun a b e z => by unfold notInS at z; split at z <;> (try split at z) <;> cases z
section
variable {X : Cx} {W : Wi} {k : Nat} {a b c : Expr} {fa fb fc : Env → Res D} {pos : Pos}
theorem re_add (ha : RE X W .R a fa) (hb : RE X W .R b fb) : RE X W .S (.BinOp a .Add b pos) (fun r => fa r >>= fun x => fb r >>= fun y => addD x y) := re_op op_addA add_ok ne_add ha hb
theorem re_sub (ha : RE X W .R a fa) (hb : RE X W .R b fb) : RE X W .S (.BinOp a .Sub b pos) (fun r => fa r >>= fun x => fb r >>= fun y => subD x y) := re_op op_sub sub_ok ne_sub ha hb
theorem re_mul (ha : RE X W .R a fa) (hb : RE X W .R b fb) : RE X W .S (.BinOp a .Mult b pos) (fun r => fa r >>= fun x => fb r >>= fun y => mulD x y) := re_op op_mulA mul_ok ne_mul ha hb
theorem re_mod (ha : RE X W .R a fa) (hb : RE X W .R b fb) : RE X W .S (.BinOp a .Mod b pos) (fun r => fa r >>= fun x => fb r >>= fun y => modD x y) := re_op op_mod mod_ok ne_mod ha hb
theorem re_div (ha : RE X W .R a fa) (hb : RE X W .R b fb) : RE X W .S (.BinOp a .FloorDiv b pos) (fun r => fa r >>= fun x => fb r >>= fun y => divD x y) := re_op op_fdivW div_ok ne_div ha hb
def ltD : D → D → Res D := cmpD fun i j => decide (i < j)
def leD : D → D → Res D := cmpD fun i j => decide (i ≤ j)
def gtD : D → D → Res D := cmpD fun i j => decide (j < i)
def geD : D → D → Res D := cmpD fun i j => decide (j ≤ i)
def asB : D → Res Bool
  | .bl b => .ok b
  | _ => .bad
/-- what a comparison by its sign is worth -/
structure Cmp (X : Cx) (o : CmpOp) (op : D → D → Res D) : Prop where
  ex : ∃ rr : R2, OpR X (compareOp o) rr ∧ OpD (gOf X) rr .R .R .S op
  ne : NoEr2 op
theorem c_lt : Cmp X .Lt ltD := ⟨⟨_, op_lt, cmp_ok⟩, ne_cmp⟩
theorem c_le : Cmp X .LtE leD := ⟨⟨_, op_le, cmp_ok⟩, ne_cmp⟩
theorem c_gt : Cmp X .Gt gtD := ⟨⟨_, op_gt, cmp_ok⟩, ne_cmp⟩
theorem c_ge : Cmp X .GtE geD := ⟨⟨_, op_ge, cmp_ok⟩, ne_cmp⟩
theorem c_isN : Cmp X .Is isN := ⟨⟨_, op_isN, isN_ok⟩, ne_isN⟩
theorem units65 (hr : Room k X.A) : X.A.units + 65 < cLine := by have := hr.un; omega
theorem re_cp {o : CmpOp} {op : D → D → Res D} (C : Cmp X o op) (ha : RE X W .R a fa) (hb : RE X W .R b fb) (hm : behindInMarks o b = false := by first | exact nomark _ | rfl) : RE X W .S (.Compare a [o] [b] pos) (fun r => fa r >>= fun x => fb r >>= fun y => op x y) :=
  let ⟨_, h1, h2⟩ := C.ex
  re_cmp h1 h2 C.ne ha hb hm
theorem asB_er {d e : D} (h : asB d = .er e) : False := by unfold asB at h; split at h <;> cases h
/-- a truth as a test -/
theorem tB_of {t : TE} {f : Env → Res D} {G : GC} (σ : L2.St) (H : Hp) (Q : Bool → Hp → Prop) (i : ∀ R : VK, tE G W .S f σ H R → t σ H R) (h : tT G W (fun r => f r >>= asB) σ H Q) : tTest t σ H Q := by
  obtain ⟨H0, F0, fp, F, r, m, o⟩ := h
  refine i _ ⟨H0, F0, fp, F, r, m, o.bind fun F' H' d gr o2 v kv => ?_⟩
  cases e : asB d with
  | ok b =>
    rw [e] at o2
    unfold asB at e
    split at e <;> cases e
    cases kv
    exact ⟨b, rfl, o2 F' H' (Grow.refl gr.sub)⟩
  | er x => exact (asB_er e).elim
  | bad => rw [e] at o2; exact o2.elim
theorem rt_cp {o : CmpOp} {op : D → D → Res D} (C : Cmp X o op) (ha : RE X W .R a fa) (hb : RE X W .R b fb) (hm : behindInMarks o b = false := by first | exact nomark _ | rfl) : RT X W (.Compare a [o] [b] pos) (fun r => (fa r >>= fun x => fb r >>= fun y => op x y) >>= asB) :=
  let ⟨_, h1, h2⟩ := C.ex
  (pt_cmpR h1 ha hb hm).imp fun σ H Q h => tB_of σ H Q (fun R t => t_op h2 C.ne σ H R t) h
/-- an expression that is True or False as a test -/
theorem rt_val (ha : RE X W .S a fa) (he : ∀ whole, isTrue a X.env whole = (do let v ← whole; standAt a.pos; holding [v] (truthy v)) := by intro _; rfl) : RT X W a (fun r => fa r >>= asB) :=
  (pt_val ha he).imp fun σ H Q h => tB_of σ H Q (fun R t => t) h
theorem rt_not {f : Env → Res Bool} (ha : RT X W a f) : RT X W (.UnaryOp .Not a pos) (fun r => f r >>= fun t => .ok (!t)) :=
  (pt_not ha).imp fun σ H Q ⟨H0, F0, fp, F, r, m, o⟩ => ⟨H0, F0, fp, F, r, m, o.bind fun F' H' t gr o2 => o2 F' H' (Grow.refl gr.sub)⟩
abbrev RW (X : Cx) (W : Wi) (e : Expr) (f : Env → Res Bool) : Prop := PW X e (tT (gOf X) W f)
theorem rt_pw {f : Env → Res Bool} (h : RW X W a f) : RT X W a f := h.pt
theorem rw_and1 {f : Env → Res Bool} (ha : RT X W a f) : RW X W (.BoolOp .And [a] pos) f := pw_and1 ha
theorem rw_or1 {f : Env → Res Bool} (ha : RT X W a f) : RW X W (.BoolOp .Or [a] pos) f := pw_or1 ha
theorem rw_and {rest : List Expr} {f g : Env → Res Bool} (ha : RT X W a f) (hb : RW X W (.BoolOp .And (b :: rest) pos) g) : RW X W (.BoolOp .And (a :: b :: rest) pos) (fun r => f r >>= fun t => if t = true then g r else .ok false) :=
  (pw_and ha hb).imp fun σ H Q ⟨H0, F0, fp, F, r, m, o⟩ => ⟨H0, F0, fp, F, r, m, o.bind fun F' H' t gr o2 => by
    cases t with
    | true => exact ⟨H0, F0, fp, F', r, m.grow gr, o2⟩
    | false => exact o2 F' H' (Grow.refl gr.sub)⟩
theorem rw_or {rest : List Expr} {f g : Env → Res Bool} (ha : RT X W a f) (hb : RW X W (.BoolOp .Or (b :: rest) pos) g) : RW X W (.BoolOp .Or (a :: b :: rest) pos) (fun r => f r >>= fun t => if t = true then .ok true else g r) :=
  (pw_or ha hb).imp fun σ H Q ⟨H0, F0, fp, F, r, m, o⟩ => ⟨H0, F0, fp, F, r, m, o.bind fun F' H' t gr o2 => by
    cases t with
    | true => exact o2 F' H' (Grow.refl gr.sub)
    | false => exact ⟨H0, F0, fp, F', r, m.grow gr, o2⟩⟩
theorem re_one {op : BoolOp} (h : RE X W .S a fa) : RE X W .S (.BoolOp op [a] pos) fa := pe_one h
theorem re_and {rest : List Expr} (ha : RE X W .S a fa) (hb : RE X W .S (.BoolOp .And (b :: rest) pos) fb) : RE X W .S (.BoolOp .And (a :: b :: rest) pos) (fun r => (fa r >>= asB) >>= fun t => if t = true then fb r else .ok (.bl false)) :=
  (pe_and ha hb).imp fun σ H Q ⟨H0, F0, fp, F, r, m, o⟩ => by
    have z := tB_of (t := tE (gOf X) W .S fa) (f := fa) σ H (fun t H1 => if t = true then tE (gOf X) W .S fb σ H1 Q else Q (.bl false) H1) (fun R t => t) ⟨H0, F0, fp, F, r, m, o.bind fun F' H' t gr o2 => by
      cases t with
      | true => rw [if_pos rfl] at o2 ⊢; exact ⟨H0, F0, fp, F', r, m.grow gr, o2.imp fun F2 H2 d g2 p v kv => p v kv⟩
      | false => exact o2 F' H' (Grow.refl gr.sub) _ (Rep.bl false)⟩
    exact z
theorem re_not (ha : RE X W .S a fa) : RE X W .S (.UnaryOp .Not a pos) (fun r => (fa r >>= asB) >>= fun t => .ok (.bl (!t))) :=
  (pe_not ha).imp fun σ H Q ⟨H0, F0, fp, F, r, m, o⟩ => by
    have z := tB_of (t := tE (gOf X) W .S fa) (f := fa) σ H (fun t H1 => Q (.bl (!t)) H1) (fun R t => t) ⟨H0, F0, fp, F, r, m, o.bind fun F' H' t gr o2 => o2 F' H' (Grow.refl gr.sub) _ (Rep.bl _)⟩
    exact z
@[simp] def negD : D → Res D
  | .int i => .ok (.int (-i))
  | _ => .bad
theorem re_neg (ha : RE X W .R a fa) : RE X W .S (.UnaryOp .USub a pos) (fun r => fa r >>= negD) :=
  (pe_un un_neg ha).imp fun σ H Q ⟨H0, F0, fp, F, r, m, o⟩ => ⟨H0, F0, fp, F, r, m, o.bind fun F' H' d gr o2 v kv => by
    cases d with
    | int i => exact ⟨i, RdD.int kv, o2 F' H' (Grow.refl gr.sub) _ (Rep.int _)⟩
    | _ => exact o2.elim⟩
end
end Mir
namespace Mir
open PySem PySem.Spec PyProof.Rows L2
variable [Tn]
def ixS : D → D → Res D
  | .lst xs, .int i => match atI xs i with
    | some d => .ok d
    | none => .bad
  | .tup xs, .int i => match atI xs i with
    | some d => .ok d
    | none => .bad
  | .scr ns, .int i => match atI ns i with
    | some n => .ok (.int n)
    | none => .bad
  | .str z, .int i => if z.length ≤ lim then (match atI z.cps.toList i with
    | some c => .ok (.str ⟨#[c]⟩)
    | none => .bad) else .bad
  | _, _ => .bad
theorem atI_rep {G : GC} {F : Hp} {vs : List V} {ds : List D} {i : Int} {d : D} (r : RepAll G F vs ds) (h : atI ds i = some d) : ∃ v, atI vs i = some v ∧ Rep G F v d := by
  unfold atI at h ⊢
  rw [r.length]
  cases e : ixN ds.length i with
  | none => rw [e] at h; cases h
  | some j =>
    rw [e] at h
    exact r.get h
theorem atI_map {ns : List Int} {i n : Int} (h : atI ns i = some n) : atI (ns.map V.int) i = some (.int n) := by
  unfold atI at h ⊢
  rw [List.length_map]
  cases e : ixN ns.length i with
  | none => rw [e] at h; cases h
  | some j =>
    rw [e] at h
    show (ns.map V.int)[j]? = _
    rw [List.getElem?_map, show ns[j]? = some n from h]
    rfl
section
variable {X : Cx} {W : Wi} {k : Nat} {a b c e : Expr} {es : List Expr} {fa fb fc fe : Env → Res D} {p pos apos cpos : Pos}
theorem ix_ok : OpD (gOf X) (rIx X.K) .R .R .S ixS := fun F H x y a b d Q Ha Hb s ka kb e k => by
  have ka : RdD (gOf X) F H x a := ka
  have kb : RdD (gOf X) F H y b := kb
  unfold ixS at e
  split at e
  · split at e <;> cases e
    rename_i h
    obtain ⟨q, vs, rfl, h1, r1⟩ := ka.lst s
    obtain ⟨v, hv, rv⟩ := atI_rep r1 h
    exact .inl ⟨q, vs, _, v, rfl, kb.int, .of h1, hv, k _ F H (Grow.refl s) rv⟩
  · split at e <;> cases e
    rename_i h
    obtain ⟨q, vs, rfl, h1, r1⟩ := ka.tup s
    obtain ⟨v, hv, rv⟩ := atI_rep r1 h
    exact .inr (.inl ⟨q, vs, _, v, rfl, kb.int, h1, hv, k _ F H (Grow.refl s) rv⟩)
  · split at e <;> cases e
    rename_i h
    obtain ⟨q, rfl, h1⟩ := ka.scr s
    exact .inl ⟨q, _, _, _, rfl, kb.int, h1, atI_map h, k _ F H (Grow.refl s) (.int _)⟩
  · split at e
    · rename_i hl
      split at e <;> cases e
      rename_i h
      exact .inr (.inr ⟨_, _, _, ka.str, kb.int, Nat.le_trans hl lim_le, h, k _ F H (Grow.refl s) (.str _)⟩)
    · cases e
  · cases e
theorem ne_ix : NoEr2 ixS := fun a b e z => by
  unfold ixS at z
  split at z
  · split at z <;> cases z
  · split at z <;> cases z
  · split at z <;> cases z
  · split at z
    · split at z <;> cases z
    · cases z
  · cases z
def cutD (xs : List D) (lo hi : Option Int) : List D := (xs.drop (HT.sIx xs.length 0 lo)).take (HT.sIx xs.length xs.length hi - HT.sIx xs.length 0 lo)
@[simp] def asI : D → Res Int
  | .int i => .ok i
  | _ => .bad
def sliceD (d : D) (lo hi : Option Int) : Res D := match d with
  | .lst xs => .ok (.lst (cutD xs lo hi))
  | .tup xs => .ok (.tup (cutD xs lo hi))
  | .str z => if z.length ≤ lim then .ok (.str (cutS z lo hi)) else .bad
  | _ => .bad
theorem RepAll.cut {G : GC} {F : Hp} {vs : List V} {ds : List D} (r : RepAll G F vs ds) (lo hi : Option Int) : RepAll G F (cutV vs lo hi) (cutD ds lo hi) := by
  unfold cutV cutD
  rw [r.length]
  exact (r.drop _).take _
/-- a part of a slice -/
def tP (G : GC) (W : Wi) (f : Env → Res (Option Int)) : TO := fun σ H Q => ∃ H0 F0 fp F r, MS G W.J H0 F0 fp F σ H r ∧ Out G W σ F H (fun F' H' o => Q o H') (f r)
abbrev RP (X : Cx) (W : Wi) (e : Option Expr) (f : Env → Res (Option Int)) : Prop := PO X e (tP (gOf X) W f)
theorem PO.imp {X : Cx} {e : Option Expr} {t t' : TO} (h : PO X e t) (i : ∀ σ H Q, t' σ H Q → t σ H Q) : PO X e t' := ⟨fun pins s σ H Q I hw => h.run pins s σ H Q I (i σ H Q hw)⟩
theorem rp_none : RP X W none (fun _ => .ok none) := PO.imp po_none fun σ H Q ⟨H0, F0, fp, F, r, m, o⟩ => o F H (Grow.refl m.sub)
theorem rp_some (he : RE X W .R e fe) : RP X W (some e) (fun r => fe r >>= fun d => asI d >>= fun i => .ok (some i)) := PO.imp (po_some he) fun σ H Q ⟨H0, F0, fp, F, r, m, o⟩ => ⟨H0, F0, fp, F, r, m, o.bind fun F' H' d gr o2 v kv => by
  cases d with
  | int i => exact ⟨i, RdD.int kv, o2 F' H' (Grow.refl gr.sub)⟩
  | _ => exact o2.elim⟩
def rSlAll (K : PySem.W.Frag) : V → Option Int → Option Int → Hp → VK → Prop := fun x lo hi H Q => rSlL K x lo hi H Q ∨ (rSlA K x lo hi H Q ∨ ∃ z, x = .str z ∧ z.length ≤ sizeLine ∧ Q (.str (cutS z lo hi)) H)
theorem t_slice {f1 f2 : Env → Res (Option Int)} {Kk : Kd} {op : D → Option Int → Option Int → Res D} (ne : ∀ d lo hi e, op d lo hi ≠ .er e) {rr : V → Option Int → Option Int → Hp → VK → Prop}
    (ok : ∀ F H x a lo hi d (Q : VK), Same F H → RdD (gOf X) F H x a → op a lo hi = .ok d → (∀ v F' H', Grow F H F' H' → Kk.Rep (gOf X) H F' H' v d → Q v H') → rr x lo hi H Q)
    (σ : L2.St) (H : Hp) (Q : VK) (t : tE (gOf X) W Kk (fun r => fa r >>= fun d => f1 r >>= fun lo => f2 r >>= fun hi => op d lo hi) σ H Q) : tSl rr (tE (gOf X) W .R fa) (tP (gOf X) W f1) (tP (gOf X) W f2) σ H Q := by
  obtain ⟨H0, F0, fp, F, r, m, o⟩ := t
  refine ⟨H0, F0, fp, F, r, m, o.bind fun F1 H1 d g1 o1 v kv => ⟨H0, F0, fp, F1, r, m.grow g1, o1.bind fun F2 H2 lo g2 o2 => ⟨H0, F0, fp, F2, r, (m.grow g1).grow g2, o2.bind fun F3 H3 hi g3 o3 => ?_⟩⟩⟩
  cases e : op d lo hi with
  | ok d' =>
    rw [e] at o3
    exact ok F3 H3 v d lo hi d' Q g3.sub (RdD.grow (show RdD (gOf X) F1 H1 v d from kv) (g2.trans g3)) e fun v' F' H' g q => o3 F' H' g v' (q.later (g1.h.trans (g2.h.trans g3.h)).fre)
  | er x => exact (ne _ _ _ _ e).elim
  | bad => rw [e] at o3; exact o3.elim
theorem re_slice {f1 f2 : Env → Res (Option Int)} {lo hi : Option Expr} {p2 : Pos} (ha : RE X W .R a fa) (hl : RP X W lo f1) (hh : RP X W hi f2) : RE X W .S (.Subscript a (.Slice lo hi none p2) pos) (fun r => fa r >>= fun d => f1 r >>= fun lo => f2 r >>= fun hi => sliceD d lo hi) :=
  (pe_slice (r := rSlAll X.K) (sl_list.or (sl_tupA.or sl_str)) ha hl hh).imp (t_slice (fun d lo hi e z => by unfold sliceD at z; split at z <;> (try split at z) <;> cases z) fun F H x a lo hi d Q s ka e k => by
    unfold sliceD at e
    split at e
    · cases e
      obtain ⟨q, vs, rfl, h1, r1⟩ := ka.lst s
      exact .inl ⟨q, vs, rfl, .of h1, fun t ht => k _ _ _ (Grow.mk1 s ht) (Rep.lst upd_same ((r1.cut lo hi).mono (Grow.mk1 s ht).f))⟩
    · cases e
      obtain ⟨q, vs, rfl, h1, r1⟩ := ka.tup s
      refine .inr (.inl ⟨q, vs, rfl, h1, fun w => ?_, fun _ t ht => k _ _ _ (Grow.mk1 s ht) (Rep.tup (.of upd_same) ((r1.cut lo hi).mono (Grow.mk1 s ht).f))⟩)
      rename_i ds
      have e : cutD ds lo hi = ds := by
        unfold cutD
        rw [r1.length] at w
        rw [w.1, w.2]
        simp
      rw [e] at k
      exact k _ F H (Grow.refl s) ka.tupS
    · split at e <;> cases e
      rename_i h
      exact .inr (.inr ⟨_, ka.str, Nat.le_trans h lim_le, k _ F H (Grow.refl s) (.str _)⟩)
    · cases e)
theorem re_tup {x1} {f : Env → Res (List D)} (ha : RA X W es f) : RE X W .S (.Tuple es x1 pos) (fun r => f r >>= fun ds => if ds.length ≤ lim then .ok (.tup ds) else .bad) :=
  (pe_tup ha).imp fun σ H Q ⟨H0, F0, fp, F, r, m, o⟩ => ⟨H0, F0, fp, F, r, m, o.bind fun F' H' ds gr o2 vs rv => by
    split at o2
    · rename_i h
      exact ⟨Nat.le_trans (by rw [rv.length]; exact h) lim_le, fun t ht => o2 _ _ (Grow.mk1 gr.sub ht) _ (Rep.tup (.of upd_same) (rv.mono (Grow.mk1 gr.sub ht).f))⟩
    · exact o2.elim⟩
theorem re_lst {f : Env → Res (List D)} (ha : RA X W es f) : RE X W (.O .flat) (.List es pos) (fun r => f r >>= fun ds => if ds.length ≤ lim then .ok (.lst ds) else .bad) :=
  (pe_lst ha).imp fun σ H Q ⟨H0, F0, fp, F, r, m, o⟩ => ⟨H0, F0, fp, F, r, m, o.bind fun F' H' ds gr o2 vs rv => by
    split at o2
    · rename_i h
      exact ⟨Nat.le_trans (by rw [rv.length]; exact h) lim_le, fun t ht => o2 _ _ (Grow.own gr.sub ht) _ ⟨[t], Own.lst rfl upd_same (gr.sub.free ht) (OwnAll.of_rep rv) (by simp), fun a ha => by rw [List.mem_singleton.mp ha]; exact gr.h.free ht⟩⟩
    · exact o2.elim⟩
end
end Mir
namespace Mir
open PySem PySem.Spec PyProof.Rows L2
variable [Tn]
inductive RdAll (G : GC) (F H : Hp) : List V → List D → Prop
  | nil : RdAll G F H [] []
  | cons {v : V} {d : D} {vs : List V} {ds : List D} : RdD G F H v d → RdAll G F H vs ds → RdAll G F H (v :: vs) (d :: ds)
def tAR (G : GC) (W : Wi) (f : Env → Res (List D)) : TA := fun σ H Q => ∃ H0 F0 fp F r, MS G W.J H0 F0 fp F σ H r ∧ Out G W σ F H (fun F' H' ds => ∀ vs, RdAll G F' H' vs ds → Q vs H') (f r)
/-- arguments to be read -/
abbrev RAR (X : Cx) (W : Wi) (es : List Expr) (f : Env → Res (List D)) : Prop := PA X es (tAR (gOf X) W f)
def CalD (G : GC) (rr : List V → Hp → VK → Prop) (k : Kd) (op : List D → Res D) : Prop := ∀ (F H : Hp) (vs : List V) (ds : List D) (d : D) (Q : VK), Same F H → RdAll G F H vs ds → op ds = .ok d → (∀ v F' H', Grow F H F' H' → k.Rep G H F' H' v d → Q v H') → rr vs H Q
def NoErL (op : List D → Res D) : Prop := ∀ ds e, op ds ≠ .er e
/-- a built-in by its name -/
structure BlM (X : Cx) (x : Str) (k : Kd) (op : List D → Res D) : Prop where
  mg : X.mg x = none
  ex : ∃ rr : List V → Hp → VK → Prop, CalD (gOf X) rr k op ∧ ((∃ id, bootBuiltins x = some (.builtin id) ∧ CallR X (.builtin id) rr) ∨ ∃ T, bootBuiltins x = some (.type T) ∧ CallR X (.type T) rr)
  ne : NoErL op
  n1 : x ≠ "__name__"
  n2 : (x == ("__debug__" : Str)) = false
section
variable {X : Cx} {W : Wi} {k : Kd} {e : Expr} {es : List Expr} {fe : Env → Res D} {p pos : Pos}
theorem rar_nil : RAR X W [] (fun _ => .ok []) := pa_nil.imp fun σ H Q ⟨H0, F0, fp, F, r, m, o⟩ => o F H (Grow.refl m.sub) [] .nil
theorem RdAll.grow {G : GC} {F H F' H' : Hp} (g : Grow F H F' H') : ∀ {vs : List V} {ds : List D}, RdAll G F H vs ds → RdAll G F' H' vs ds
  | _, _, .nil => .nil
  | _, _, .cons r t => .cons (r.grow g) (RdAll.grow g t)
theorem rar_cons {g : Env → Res (List D)} (he : RE X W .R e fe) (hr : RAR X W es g) (hs : starEach (e :: es) X.env = (false, eval e X.env) :: starEach es X.env := by rfl) :
    RAR X W (e :: es) (fun r => fe r >>= fun d => g r >>= fun ds => .ok (d :: ds)) :=
  (pa_cons he hr hs).imp fun σ H Q ⟨H0, F0, fp, F, r, m, o⟩ => ⟨H0, F0, fp, F, r, m, o.bind fun F1 H1 d g1 o1 v kv =>
    ⟨H0, F0, fp, F1, r, m.grow g1, o1.bind fun F2 H2 ds g2 o2 vs rv => o2 F2 H2 (Grow.refl g2.sub) (v :: vs) (.cons (RdD.grow kv g2) rv)⟩⟩
theorem t_bl {rr : List V → Hp → VK → Prop} {op : List D → Res D} (h : CalD (gOf X) rr k op) (ne : NoErL op) {fa : Env → Res (List D)} (σ : L2.St) (H : Hp) (Q : VK) (t : tE (gOf X) W k (fun r => fa r >>= op) σ H Q) : tCB rr (tAR (gOf X) W fa) σ H Q := by
  obtain ⟨H0, F0, fp, F, r, m, o⟩ := t
  refine ⟨H0, F0, fp, F, r, m, o.bind fun F' H' ds gr o2 vs rv => ?_⟩
  cases z : op ds with
  | ok d =>
    rw [z] at o2
    exact h F' H' vs ds d Q gr.sub rv z fun v F2 H2 g kv => o2 F2 H2 g v (kv.later gr.h.fre)
  | er x => exact (ne _ _ z).elim
  | bad => rw [z] at o2; exact o2.elim
theorem re_blt {x : Str} {op : List D → Res D} {fa : Env → Res (List D)} (B : BlM X x k op) (ha : RAR X W (e :: es) fa) (hg : Gl X x := by rfl) (he : starEach (e :: es) X.env = (false, eval e X.env) :: starEach es X.env := by rfl) (hpl : (backTo pos (starEach es X.env)).any (·.1) = false := by rfl) :
    RE X W k (.Call (.Name x p) (e :: es) [] pos) (fun r => fa r >>= op) := by
  obtain ⟨rr, hc, ⟨id, hv, hr⟩ | ⟨T, hv, hr⟩⟩ := B.ex
  · exact (pe_callB hr hg B.mg hv ha B.n1 B.n2 he hpl).imp (t_bl hc B.ne)
  · exact (pe_callTy hr hg B.mg hv ha B.n1 B.n2 he hpl).imp (t_bl hc B.ne)
theorem BlM.b {x : Str} {id : String} {rr : List V → Hp → VK → Prop} {op : List D → Res D} (hm : X.mg x = none) (hv : bootBuiltins x = some (.builtin id)) (hr : CallR X (.builtin id) rr) (ne : NoErL op) (c : CalD (gOf X) rr k op) (n1 : x ≠ "__name__" := by decide) (n2 : (x == ("__debug__" : Str)) = false := by decide) : BlM X x k op :=
  ⟨hm, ⟨rr, c, .inl ⟨id, hv, hr⟩⟩, ne, n1, n2⟩
theorem BlM.t {x : Str} {T : String} {rr : List V → Hp → VK → Prop} {op : List D → Res D} (hm : X.mg x = none) (hv : bootBuiltins x = some (.type T)) (hr : CallR X (.type T) rr) (ne : NoErL op) (c : CalD (gOf X) rr k op) (n1 : x ≠ "__name__" := by decide) (n2 : (x == ("__debug__" : Str)) = false := by decide) : BlM X x k op :=
  ⟨hm, ⟨rr, c, .inr ⟨T, hv, hr⟩⟩, ne, n1, n2⟩
@[simp] def one (f : D → Res D) : List D → Res D
  | [d] => f d
  | _ => .bad
@[simp] def two (f : D → D → Res D) : List D → Res D
  | [d, e] => f d e
  | _ => .bad
def noEr1 (f : D → Res D) : Prop := ∀ d e, f d ≠ .er e
theorem ne_one {f : D → Res D} (h : noEr1 f) : NoErL (one f) := fun ds e z => by
  unfold one at z
  split at z
  · exact h _ _ z
  · cases z
theorem ne_two {f : D → D → Res D} (h : NoEr2 f) : NoErL (two f) := fun ds e z => by
  unfold two at z
  split at z
  · exact h _ _ _ z
  · cases z
theorem cal_one {G : GC} {rr : List V → Hp → VK → Prop} {f : D → Res D} (h : ∀ (F H : Hp) (x : V) (a d : D) (Q : VK), Same F H → RdD G F H x a → f a = .ok d → (∀ v F' H', Grow F H F' H' → k.Rep G H F' H' v d → Q v H') → rr [x] H Q) : CalD G rr k (one f) := fun F H vs ds d Q s r e q => by
  unfold one at e
  split at e
  · cases r with
    | cons r1 rn =>
      cases rn
      exact h F H _ _ d Q s r1 e q
  · cases e
theorem cal_two {G : GC} {rr : List V → Hp → VK → Prop} {f : D → D → Res D} (h : ∀ (F H : Hp) (x y : V) (a b d : D) (Q : VK), Same F H → RdD G F H x a → RdD G F H y b → f a b = .ok d → (∀ v F' H', Grow F H F' H' → k.Rep G H F' H' v d → Q v H') → rr [x, y] H Q) : CalD G rr k (two f) := fun F H vs ds d Q s r e q => by
  unfold two at e
  split at e
  · cases r with
    | cons r1 rn =>
      cases rn with
      | cons r2 rn =>
        cases rn
        exact h F H _ _ _ _ d Q s r1 r2 e q
  · cases e
@[simp] def tupleD : D → Res D
  | .lst xs => .ok (.tup xs)
  | .tup xs => .ok (.tup xs)
  | _ => .bad
@[simp] def listD : D → Res D
  | .lst xs => .ok (.lst xs)
  | .tup xs => .ok (.lst xs)
  | _ => .bad
theorem b_tuple (hm : X.mg "tuple" = none) : BlM X "tuple" .S (one tupleD) := BlM.t hm boot_tuple (call_tuple_of) (ne_one fun d e z => by unfold tupleD at z; split at z <;> cases z) (cal_one fun F H x a d Q s ra e q => by
  unfold tupleD at e
  split at e <;> cases e
  · obtain ⟨p, vs, rfl, h1, r1⟩ := ra.lst s
    exact ⟨p, vs, rfl, .inl ⟨.of h1, fun t ht => q _ _ _ (Grow.mk1 s ht) (Rep.tup (.of upd_same) (r1.mono (Grow.mk1 s ht).f))⟩⟩
  · obtain ⟨p, vs, rfl, h1, r1⟩ := ra.tup s
    exact ⟨p, vs, rfl, .inr ⟨h1, q _ F H (Grow.refl s) ra.tupS⟩⟩)
theorem b_list (hm : X.mg "list" = none) : BlM X "list" (.O .flat) (one listD) := BlM.t hm boot_list (call_list_of) (ne_one fun d e z => by unfold listD at z; split at z <;> cases z) (cal_one fun F H x a d Q s ra e q => by
  unfold listD at e
  split at e <;> cases e
  · obtain ⟨p, vs, rfl, h1, r1⟩ := ra.lst s
    exact ⟨p, vs, rfl, .inl (.of h1), fun t ht => q _ _ _ (Grow.own s ht) ⟨[t], Own.lst rfl upd_same (s.free ht) (OwnAll.of_rep r1) (by simp), fun a ha => by rw [List.mem_singleton.mp ha]; exact ht⟩⟩
  · obtain ⟨p, vs, rfl, h1, r1⟩ := ra.tup s
    exact ⟨p, vs, rfl, .inr h1, fun t ht => q _ _ _ (Grow.own s ht) ⟨[t], Own.lst rfl upd_same (s.free ht) (OwnAll.of_rep r1) (by simp), fun a ha => by rw [List.mem_singleton.mp ha]; exact ht⟩⟩)
def intD : D → Res D
  | .int i => .ok (.int i)
  | .bl b => .ok (.int (if b = true then 1 else 0))
  | .str s => match PySem.intText? s with
    | some n => if s.length ≤ 640 then .ok (.int n) else .bad
    | none => .bad
  | _ => .bad
theorem ne_int : noEr1 intD := fun d e z => by
  unfold intD at z
  split at z
  · cases z
  · cases z
  · split at z
    · split at z <;> cases z
    · cases z
  · cases z
theorem b_int (hm : X.mg "int" = none) : BlM X "int" .S (one intD) := BlM.t hm boot_int (call_int1.or call_int_str) (ne_one ne_int) (cal_one fun F H x a d Q s ra e q => by
  unfold intD at e
  split at e
  · cases e
    exact .inl (.inl ⟨_, by rw [ra.int], q _ F H (Grow.refl s) (Rep.int _)⟩)
  · cases e
    exact .inl (.inr ⟨_, by rw [ra.bl], q _ F H (Grow.refl s) (Rep.int _)⟩)
  · split at e
    · rename_i n hn
      split at e <;> cases e
      rename_i hl
      exact .inr ⟨_, n, by rw [ra.str], hn, hl, q _ F H (Grow.refl s) (Rep.int _)⟩
    · cases e
  · cases e)
def strD : D → Res D
  | .int i => if bits i < 1920 then .ok (.str (toString i)) else .bad
  | _ => .bad
theorem b_str (hm : X.mg "str" = none) : BlM X "str" .S (one strD) := BlM.t hm boot_str (call_str_int) (ne_one (fun d e z => by unfold strD at z; split at z <;> (try split at z) <;> cases z)) (cal_one fun F H x a d Q s ra e q => by
  unfold strD at e
  split at e
  · split at e <;> cases e
    rename_i h
    exact ⟨_, by rw [ra.int], h, q _ F H (Grow.refl s) (Rep.str _)⟩
  · cases e)
def minD : D → D → Res D
  | .int i, .int j => .ok (.int (if j < i then j else i))
  | _, _ => .bad
theorem b_min (hc : X.calm = true) (hm : X.mg "min" = none) : BlM X "min" .S (two minD) := BlM.b hm boot_min (call_min2 hc) (ne_two (fun a b e z => by unfold minD at z; split at z <;> cases z)) (cal_two fun F H x y a b d Q s ra rb e q => by
  unfold minD at e
  split at e <;> cases e
  exact ⟨_, _, by rw [ra.int, rb.int], q _ F H (Grow.refl s) (Rep.int _)⟩)
def asInts : List D → Option (List Int)
  | [] => some []
  | .int i :: ds => (asInts ds).map (i :: ·)
  | _ :: _ => none
theorem asInts_rep {G : GC} {F : Hp} : ∀ {vs : List V} {ds : List D} {ns : List Int}, RepAll G F vs ds → asInts ds = some ns → vs = ns.map V.int
  | _, _, _, .nil, e => by cases e; rfl
  | _, _, _, .cons (d := d) r t, e => by
    cases d with
    | int i =>
      rw [asInts, Option.map_eq_some_iff] at e
      obtain ⟨ms, e1, e2⟩ := e
      subst e2
      cases r
      rw [asInts_rep t e1]
      rfl
    | _ => cases e
def sumD : D → Res D
  | .scr ns => .ok (.int ns.sum)
  | .lst ds => match asInts ds with
    | some ns => .ok (.int ns.sum)
    | none => .bad
  | _ => .bad
theorem boot_sum' : bootBuiltins "sum" = some (.builtin "sum") := by decide +kernel
theorem boot_all' : bootBuiltins "all" = some (.builtin "all") := by decide +kernel
theorem b_sum (hc : X.calm = true) (hm : X.mg "sum" = none) : BlM X "sum" .S (one sumD) := BlM.b hm boot_sum' (cr_sum hc) (ne_one (fun d e z => by unfold sumD at z; split at z <;> (try split at z) <;> cases z)) (cal_one fun F H x a d Q s ra e q => by
  unfold sumD at e
  split at e
  · cases e
    obtain ⟨p, rfl, h1⟩ := ra.scr s
    exact ⟨p, _, rfl, h1, q _ F H (Grow.refl s) (Rep.int _)⟩
  · split at e <;> cases e
    rename_i ns h
    obtain ⟨p, vs, rfl, h1, r1⟩ := ra.lst s
    exact ⟨p, ns, rfl, by rw [← asInts_rep r1 h]; exact .of h1, q _ F H (Grow.refl s) (Rep.int _)⟩
  · cases e)
end
end Mir
namespace Mir
open PySem PySem.Spec PyProof.Rows L2
variable [Tn]
section
variable {G : GC} {J : L2.St → Prop} {H0 F0 F H : Hp} {fp : Nat → List Addr} {σ : L2.St} {r : Env}
theorem MS.lst (m : MS G J H0 F0 fp F σ H r) {i : Nat} {ds : List D} (h : r[i]? = some (.ow .flat (.lst ds))) : ∃ a vs, σ[i]? = some (some (.ref a)) ∧ H a = some (.lst vs) ∧ RepAll G F vs ds ∧ fp i = [a] := by
  obtain ⟨⟨v, h1, h2⟩, _⟩ := m.ow i _ _ h
  generalize fp i = A at h2
  cases h2 with
  | lst _ e _ ra na =>
    obtain ⟨rfl, rr⟩ := ra.to_rep
    exact ⟨_, _, h1, e, rr, rfl⟩
/-- an owned list is changed -/
theorem MS.lstUpd (m : MS G J H0 F0 fp F σ H r) {i : Nat} {ds ds' : List D} {a : Addr} {vs' : List V} (h : r[i]? = some (.ow .flat (.lst ds))) (hv : σ[i]? = some (some (.ref a))) (hf : fp i = [a]) (rr : RepAll G F vs' ds') :
    ∃ fp', MS G J H0 F0 fp' F σ (upd H a (.lst vs')) (r.set i (.ow .flat (.lst ds'))) := by
  obtain ⟨⟨v, h1, h2⟩, _⟩ := m.ow i _ _ h
  have fa := (h2.there a (by rw [hf]; simp)).1
  exact m.write (A := [a]) h hv (by rw [hf]; simp) (Own.lst rfl upd_same fa (OwnAll.of_rep rr) (by simp)) fun b hb => .inl (by rw [hf]; exact hb)
end
/-- the list that the i-th name owns -/
def ownL (i : Nat) (r : Env) : Option (List D) := match r[i]? with
  | some (.ow .flat (.lst ds)) => some ds
  | _ => none
theorem ownL_some {i : Nat} {r : Env} {ds : List D} (h : ownL i r = some ds) : r[i]? = some (.ow .flat (.lst ds)) := by
  unfold ownL at h
  split at h
  · rename_i e; cases h; exact e
  · cases h
def appG (i : Nat) (f : Env → Res D) (r : Env) : Oc := match ownL i r with
  | some ds => lift (f r) r fun d => if ds.length < lim then .nx (r.set i (.ow .flat (.lst (ds ++ [d])))) else .bad
  | none => .bad
def extG (i : Nat) (f : Env → Res D) (r : Env) : Oc := match ownL i r with
  | some ds => lift (f r) r fun d => match d with
    | .lst es => if ds.length + es.length ≤ lim then .nx (r.set i (.ow .flat (.lst (ds ++ es)))) else .bad
    | _ => .bad
  | none => .bad
section
variable {X : Cx} {W : Wi} {k : Kd} {e : Expr} {fe : Env → Res D} {pos apos cpos ps : Pos} {x : Str}
theorem rs_append (i : Nat) (he : RE X W .S e fe) (hN : X.N[i]? = some x := by rfl) (hv : Vis X.env.scope x := by first | exact Or.inl rfl | exact Or.inr (Or.inl rfl) | exact Or.inr (Or.inr rfl)) (hd : (x == ("__debug__" : Str)) = false := by decide)
    (hcd : (x == ("__classdict__" : Str)) = false := by decide) (hs : swapsWith (.Call (.Attribute (.Name x ps) "append" apos) [e] [] cpos) none pos.line X.env = pure false := by rfl)
    (hbase : attributeBase (.Name x ps) "append" X.env (eval (.Name x ps) X.env) = eval (.Name x ps) X.env := by rfl)
    (hfew : ((backTo cpos (starEach [e] X.env)).all (fun x => !x.1) && (backToKw cpos (keywordEach [] X.env)).all (fun x => x.1.isSome) && decide ([e].length + ([] : List Keyword).length + (if ([] : List Keyword).isEmpty then 0 else 1) < 30)) = true := by rfl)
    (hline : (apos.endLine == cpos.line) = true := by rfl) (hse : starEach [e] X.env = (false, eval e X.env) :: starEach [] X.env := by rfl) :
    RS X W k (.Expr (.Call (.Attribute (.Name x ps) "append" apos) [e] [] cpos) pos) (appG i fe) :=
  (ps_expr (pe_bm PySem.F.plainAttrs_list PySem.F.slot_list_append PySem.F.type_list_append mt_append (pe_var hN hv hd hcd) (pa_cons he pa_nil hse) hbase hfew hline hse (by rfl)) hs).imp fun D σ H ⟨H0, F0, fp, F, r, m, o⟩ => by
    unfold appG at o
    split at o
    · rename_i ds ho
      have hi := ownL_some ho
      obtain ⟨a, vs, h1, h2, h3, h4⟩ := m.lst hi
      refine ⟨.ref a, h1, Or.inl ⟨rfl, _, .of h2⟩, H0, F0, fp, F, r, m, o.lift m fun F' H' d gr o' v kv => ?_⟩
      split at o'
      · rename_i hl
        obtain ⟨fp', m'⟩ := (m.grow gr).lstUpd hi h1 h4 ((h3.mono gr.f).append (.cons kv .nil))
        exact ⟨a, vs, v, rfl, rfl, gr.h.at _ _ h2, Nat.lt_of_lt_of_le (by rw [h3.length]; exact hl) lim_le, o' fp' F' σ _ (Same.refl _) m'⟩
      · exact o'.elim
    · exact o.elim
theorem rs_extend (i : Nat) (he : RE X W .S e fe) (hN : X.N[i]? = some x := by rfl) (hv : Vis X.env.scope x := by first | exact Or.inl rfl | exact Or.inr (Or.inl rfl) | exact Or.inr (Or.inr rfl)) (hd : (x == ("__debug__" : Str)) = false := by decide)
    (hcd : (x == ("__classdict__" : Str)) = false := by decide) (hs : swapsWith (.Call (.Attribute (.Name x ps) "extend" apos) [e] [] cpos) none pos.line X.env = pure false := by rfl)
    (hbase : attributeBase (.Name x ps) "extend" X.env (eval (.Name x ps) X.env) = eval (.Name x ps) X.env := by rfl)
    (hfew : ((backTo cpos (starEach [e] X.env)).all (fun x => !x.1) && (backToKw cpos (keywordEach [] X.env)).all (fun x => x.1.isSome) && decide ([e].length + ([] : List Keyword).length + (if ([] : List Keyword).isEmpty then 0 else 1) < 30)) = true := by rfl)
    (hline : (apos.endLine == cpos.line) = true := by rfl) (hse : starEach [e] X.env = (false, eval e X.env) :: starEach [] X.env := by rfl) :
    RS X W k (.Expr (.Call (.Attribute (.Name x ps) "extend" apos) [e] [] cpos) pos) (extG i fe) :=
  (ps_expr (pe_bm PySem.F.plainAttrs_list PySem.F.slot_list_extend PySem.F.type_list_extend mt_extend (pe_var hN hv hd hcd) (pa_cons he pa_nil hse) hbase hfew hline hse (by rfl)) hs).imp fun D σ H ⟨H0, F0, fp, F, r, m, o⟩ => by
    unfold extG at o
    split at o
    · rename_i ds ho
      have hi := ownL_some ho
      obtain ⟨a, vs, h1, h2, h3, h4⟩ := m.lst hi
      refine ⟨.ref a, h1, Or.inl ⟨rfl, _, .of h2⟩, H0, F0, fp, F, r, m, o.lift m fun F' H' d gr o' v kv => ?_⟩
      split at o'
      · rename_i es
        split at o'
        · rename_i hl
          have kv' : Rep (gOf X) F' v (.lst es) := kv
          cases kv' with
          | @lst b ws _ hb rb =>
            obtain ⟨fp', m'⟩ := (m.grow gr).lstUpd hi h1 h4 ((h3.mono gr.f).append rb)
            exact ⟨a, b, vs, ws, rfl, rfl, gr.h.at _ _ h2, gr.sub _ _ hb, Nat.le_trans (by rw [h3.length, rb.length]; exact hl) lim_le, o' fp' F' σ _ (Same.refl _) m'⟩
        · exact o'.elim
      · exact o'.elim
    · exact o.elim
theorem re_gInt {i : Int} {t : Tok} (hm : X.mg x = some (.int i t)) (hg : Gl X x := by rfl) (hd : (x == ("__debug__" : Str)) = false := by decide) : RE X W .S (.Name x pos) (fun _ => .ok (.int i)) := re_cst (pe_glob (v := .int i) hg hm ⟨t, rfl⟩ hd) fun _ => .int i
theorem re_gStr {i : Str} {t : Tok} (hm : X.mg x = some (.str i t)) (hg : Gl X x := by rfl) (hd : (x == ("__debug__" : Str)) = false := by decide) : RE X W .S (.Name x pos) (fun _ => .ok (.str i)) := re_cst (pe_glob (v := .str i) hg hm ⟨t, rfl⟩ hd) fun _ => .str i
/-- a class of one's own -/
theorem re_cls {c : Nat} {C : Addr} (hm : X.mg x = some (.ref C)) (hx : x = cname c := by rfl) (hg : Gl X x := by rfl) (hd : (x == ("__debug__" : Str)) = false := by decide) : RE X W .S (.Name x pos) (fun _ => .ok (.cls c)) := by
  subst hx
  exact re_cst (pe_glob (v := .ref C) hg hm rfl hd) fun _ => .cls hm
/-- a built-in type as a value -/
theorem re_ty {T : String} (hm : X.mg x = none) (hv : bootBuiltins x = some (.type T)) (hg : Gl X x := by rfl) (hn : x ≠ "__name__" := by decide) (hd : (x == ("__debug__" : Str)) = false := by decide) : RE X W .S (.Name x pos) (fun _ => .ok (.ty T)) :=
  re_cst (pe_bltn (v := .ty T) hg hm hv rfl hn hd) fun _ => .ty T
theorem rt_chain {o1 o2 : CmpOp} {p1 p2 : D → D → Res D} {a b c : Expr} {fa fb fc : Env → Res D} (C1 : Cmp X o1 p1) (C2 : Cmp X o2 p2) (ha : RE X W .R a fa) (hb : RE X W .R b fb) (hc : RE X W .R c fc) (hm : lastMarks [o1, o2] [b, c] = false := by with_unfolding_all rfl) :
    RT X W (.Compare a [o1, o2] [b, c] pos) (fun r => fa r >>= fun x => fb r >>= fun y => (p1 x y >>= asB) >>= fun t => if t = true then (fc r >>= fun z => p2 y z) >>= asB else .ok false) := by
  obtain ⟨rr1, h1, k1⟩ := C1.ex
  obtain ⟨rr2, h2, k2⟩ := C2.ex
  refine (pt_chain h1 h2 ha hb hc hm).imp fun σ H Q ⟨H0, F0, fp, F, r, m, o⟩ => ⟨H0, F0, fp, F, r, m, o.bind fun F1 H1 d1 g1 o1 v1 kv1 => ⟨H0, F0, fp, F1, r, m.grow g1, o1.bind fun F2 H2 d2 g2 o2 v2 kv2 => ?_⟩⟩
  cases e1 : p1 d1 d2 with
  | er x => exact (C1.ne _ _ _ e1).elim
  | bad => rw [e1] at o2; exact o2.elim
  | ok w =>
    rw [e1] at o2
    refine k1 F2 H2 v1 v2 d1 d2 w _ H H g2.sub (RdD.grow kv1 g2) kv2 e1 fun v' F' H' g3 kr => ?_
    have o3 := Out.grow o2 g3
    cases w with
    | bl t =>
      have kr' : Rep (gOf X) F' v' (.bl t) := kr
      cases kr'
      refine ⟨t, rfl, ?_⟩
      cases t with
      | false => exact ⟨false, rfl, o3 F' H' (Grow.refl g3.sub)⟩
      | true =>
        have m3 := ((m.grow g1).grow g2).grow g3
        refine ⟨H0, F0, fp, F', r, m3, (show Out _ _ _ _ _ _ ((fc r >>= fun z => p2 d2 z) >>= asB) from o3) |> fun o4 => ?_⟩
        have o5 : Out (gOf X) W σ F' H' (fun F2 H2 b => Q b H2) (fc r >>= fun z => p2 d2 z >>= asB) := by
          cases ef : fc r <;> (rw [ef] at o4; exact o4)
        refine o5.bind fun F5 H5 d5 g5 o6 v5 kv5 => ?_
        cases e2 : p2 d2 d5 with
        | er x => exact (C2.ne _ _ _ e2).elim
        | bad => rw [e2] at o6; exact o6.elim
        | ok w2 =>
          rw [e2] at o6
          refine k2 F5 H5 v2 v5 d2 d5 w2 _ H H g5.sub (RdD.grow (RdD.grow kv2 g3) g5) kv5 e2 fun v6 F6 H6 g6 kr6 => ?_
          have o7 := Out.grow o6 g6
          cases w2 with
          | bl t2 =>
            have kr7 : Rep (gOf X) F6 v6 (.bl t2) := kr6
            cases kr7
            exact ⟨t2, rfl, o7 F6 H6 (Grow.refl g6.sub)⟩
          | _ => exact o7.elim
    | _ => exact o3.elim
end
end Mir
namespace Mir
open PySem PySem.Spec PyProof.Rows L2
variable [Tn]
theorem WalkD.of_walk {G : GC} {F B : Hp} {J : It} {ds : List D} {n : Nat} {g : Hp → Prop} {Y : Nat → Hp → V → Hp → Prop} (w : Walk J n g Y) (hn : n = ds.length) (hg : ∀ H, Same B H → g H)
    (hy : ∀ (i : Nat) F2 H2 x H3, i < ds.length → Same F F2 → Same F2 H2 → Same B H2 → Y i H2 x H3 → ∃ F3 d, Grow F2 H2 F3 H3 ∧ ds[i]? = some d ∧ Rep G F3 x d) : WalkD G F B J ds := by
  subst hn
  exact ⟨fun i H hi s => w.goes i H hi (hg H s), fun H s => w.stops H (hg H s), fun i F2 H2 x H3 hi s1 s2 s3 y => hy i F2 H2 x H3 hi s1 s2 s3 (w.yields i H2 x H3 hi (hg H2 s3) y)⟩
theorem WalkD.list {G : GC} {F B : Hp} {a : Addr} {vs : List V} {ds : List D} (h : B a = some (.lst vs)) (r : RepAll G F vs ds) : WalkD G F B (Itl G.K a) ds :=
  .of_walk walk_list r.length (fun H s => .of (s _ _ h)) fun i F2 H2 x H3 hi s1 s2 _ ⟨e1, e2⟩ => by
    subst e1
    obtain ⟨d, h1, h2⟩ := r.getV e2
    exact ⟨F2, d, Grow.refl s2, h1, h2.mono s1⟩
theorem WalkD.tup {G : GC} {F B : Hp} {a : Addr} {vs : List V} {ds : List D} (h : SqT G.K B a vs) (r : RepAll G F vs ds) : WalkD G F B (Itt G.K a) ds :=
  .of_walk walk_tup r.length (fun H s => Same.sqT s h) fun i F2 H2 x H3 hi s1 s2 _ ⟨e1, e2⟩ => by
    subst e1
    obtain ⟨d, h1, h2⟩ := r.getV e2
    exact ⟨F2, d, Grow.refl s2, h1, h2.mono s1⟩
theorem WalkD.scr {G : GC} {F B : Hp} {a : Addr} {ns : List Int} (h : SqL G.K B a (ns.map V.int)) : WalkD G F B (Itl G.K a) (ns.map D.int) :=
  .of_walk walk_list (by simp) (fun H s => s.seq h) fun i F2 H2 x H3 hi s1 s2 _ ⟨e1, e2⟩ => by
    subst e1
    rw [List.getElem?_map, Option.map_eq_some_iff] at e2
    obtain ⟨n, h1, h2⟩ := e2
    subst h2
    exact ⟨F2, .int n, Grow.refl s2, by rw [List.getElem?_map, h1]; rfl, .int n⟩
def signsOf (z : Str) : List D := z.cps.toList.map fun c => D.str ⟨#[c]⟩
theorem WalkD.str {G : GC} {F B : Hp} {z : Str} : WalkD G F B (Its z) (signsOf z) :=
  .of_walk walk_str (by simp [signsOf]) (fun _ _ => trivial) fun i F2 H2 x H3 hi s1 s2 _ ⟨e1, c, e2, e3⟩ => by
    subst e1 e3
    refine ⟨F2, .str ⟨#[c]⟩, Grow.refl s2, ?_, .str _⟩
    unfold signsOf
    rw [List.getElem?_map, Array.getElem?_toList, e2]
    rfl
def rangeL (lo : Int) (n : Nat) : List D := (List.range n).map fun i => D.int (lo + (i : Nat))
theorem WalkD.range {G : GC} {F B : Hp} {lo : Int} {n : Nat} : WalkD G F B (Itr lo n) (rangeL lo n) :=
  .of_walk walk_range (by simp [rangeL]) (fun _ _ => trivial) fun i F2 H2 x H3 hi s1 s2 _ ⟨e1, e2⟩ => by
    subst e1 e2
    refine ⟨F2, .int (lo + i), Grow.refl s2, ?_, .int _⟩
    have hi' : i < n := by simpa [rangeL] using hi
    unfold rangeL
    rw [List.getElem?_map, List.getElem?_range hi']
    rfl
@[simp] def itemsS : D → Res (List D)
  | .lst xs => .ok xs
  | .tup xs => .ok xs
  | .scr ns => .ok (ns.map D.int)
  | .str z => .ok (signsOf z)
  | _ => .bad
section
variable {X : Cx} {W : Wi} {e tg : Expr} {fe : Env → Res D} {p pos tpos : Pos}
theorem re_iterS (he : RE X W .S e fe) : RI X W true tg e (fun r => fe r >>= itemsS) := by
  refine ⟨fun pins s σ H R I ⟨H0, F0, fp, F, r, m, o⟩ => ?_⟩
  have o : Out (gOf X) W σ F H _ (fe r >>= itemsS) := o
  cases ef : fe r with
  | er x => exact (pi_list he).run pins s σ H R I ⟨H0, F0, fp, F, r, m, by rw [ef] at o ⊢; exact o⟩
  | bad => rw [ef] at o; exact o.elim
  | ok d =>
    rw [ef] at o
    cases d with
    | lst ds => exact (pi_list he).run pins s σ H R I ⟨H0, F0, fp, F, r, m, by
        rw [ef]
        intro F' H' gr v kv
        have kv' : Rep (gOf X) F' v (.lst ds) := kv
        cases kv' with
        | lst h1 r1 => exact ⟨_, rfl, ⟨_, .of (gr.sub _ _ h1)⟩, o F' H' gr _ (WalkD.list h1 r1)⟩⟩
    | tup ds => exact (pi_tup he).run pins s σ H R I ⟨H0, F0, fp, F, r, m, by
        rw [ef]
        intro F' H' gr v kv
        have kv' : Rep (gOf X) F' v (.tup ds) := kv
        cases kv' with
        | tup h1 r1 => exact ⟨_, rfl, ⟨_, Same.sqT gr.sub h1⟩, o F' H' gr _ (WalkD.tup h1 r1)⟩⟩
    | scr ns => exact (pi_list he).run pins s σ H R I ⟨H0, F0, fp, F, r, m, by
        rw [ef]
        intro F' H' gr v kv
        have kv' : Rep (gOf X) F' v (.scr ns) := kv
        cases kv' with
        | scr h1 => exact ⟨_, rfl, ⟨_, gr.sub.seq h1⟩, o F' H' gr _ (WalkD.scr h1)⟩⟩
    | str z => exact (pi_str he).run pins s σ H R I ⟨H0, F0, fp, F, r, m, by
        rw [ef]
        intro F' H' gr v kv
        have kv' : Rep (gOf X) F' v (.str z) := kv
        cases kv'
        exact ⟨z, rfl, o F' H' gr _ WalkD.str⟩⟩
    | _ => exact o.elim
/-- range(n), range(m, n) in the sizes that are walked -/
def rng1 : List D → Res (List D)
  | [.int n] => if -1000000000 ≤ n ∧ n ≤ 1000000000 then .ok (rangeL 0 n.toNat) else .bad
  | _ => .bad
theorem rng1_inv {ds : List D} : (∃ n, ds = [.int n] ∧ (-1000000000 ≤ n ∧ n ≤ 1000000000) ∧ rng1 ds = .ok (rangeL 0 n.toNat)) ∨ rng1 ds = .bad := by
  unfold rng1
  split
  · split
    · rename_i n h; exact .inl ⟨n, rfl, h, rfl⟩
    · exact .inr rfl
  · exact .inr rfl
theorem ri_range1 {b : Bool} {a : Expr} {fa : Env → Res (List D)} (hm : X.mg "range" = none) (ha : RAR X W [a] fa) (hg : Gl X "range" := by rfl) (hs : starEach [a] X.env = [(false, eval a X.env)] := by rfl) : RI X W b tg (.Call (.Name "range" p) [a] [] pos) (fun r => fa r >>= rng1) := by
  refine ⟨fun pins s σ H R I ⟨H0, F0, fp, F, r, m, o⟩ => (pi_range1 hg hm ha hs).run pins s σ H R I ⟨H0, F0, fp, F, r, m, o.bind fun F' H' ds gr o2 vs rv => ?_⟩⟩
  rcases rng1_inv (ds := ds) with ⟨n, rfl, hn, e⟩ | e
  · rw [e] at o2
    cases rv with
    | cons r1 rr =>
      cases rr
      exact ⟨n, by rw [RdD.int r1], by omega, by omega, o2 F' H' (Grow.refl gr.sub) _ WalkD.range⟩
  · rw [e] at o2; exact o2.elim
/-- what a block raises is not looked after -/
def nE {α : Type} : Res α → Res α
  | .ok a => .ok a
  | _ => .bad
@[simp] theorem nE_ok {α : Type} (a : α) : nE (.ok a) = .ok a := rfl
theorem nE_some {α : Type} {x : Res α} {a : α} (h : nE x = .ok a) : x = .ok a := by
  cases x <;> first | exact h | cases h
def lcD (g : D → Env → Res Env) (t : Env → Res Bool) (f : Env → Res D) (r : Env) : List D → Res (List D)
  | [] => .ok []
  | d :: ds => nE (g d r) >>= fun r1 => nE (t r1) >>= fun b => if b = true then nE (f r1) >>= fun x => lcD g t f r ds >>= fun xs => .ok (x :: xs) else lcD g t f r ds
@[simp] def lstD (ds : List D) : Res D := if ds.length ≤ lim then .ok (.lst ds) else .bad
/-- the block's own names forgotten -/
def wipeR (r : Env) : List Nat → Env
  | [] => r
  | v :: vs => (wipeR r vs).set v .un
theorem MS.wipe {G : GC} {J J' : L2.St → Prop} {H0 F0 F H : Hp} {fp : Nat → List Addr} {σ : L2.St} {r : Env} (m : MS G J H0 F0 fp F σ H r) : ∀ (vs : List Nat), J' (L2.wipe σ vs) → MS G J' H0 F0 fp F (L2.wipe σ vs) H (wipeR r vs)
  | vs, j => by
    have len : ∀ vs : List Nat, (wipeR r vs).length = r.length := fun vs => by
      induction vs with
      | nil => rfl
      | cons v vs ih => rw [wipeR, List.length_set, ih]
    have some1 : ∀ (vs : List Nat) {i : Nat} {s : Slot}, (wipeR r vs)[i]? = some s → s ≠ .un → r[i]? = some s ∧ i ∉ vs := fun vs => by
      induction vs with
      | nil => exact fun h _ => ⟨h, by simp⟩
      | cons v vs ih =>
        intro i s h ne
        rcases get_set_slot h with ⟨_, x, _⟩ | ⟨n, h⟩
        · exact absurd x.symm ne
        · obtain ⟨h1, h2⟩ := ih h ne
          exact ⟨h1, by simp only [List.mem_cons, not_or]; exact ⟨Ne.symm n, h2⟩⟩
    have keep : ∀ (vs : List Nat) {i : Nat}, i ∉ vs → (L2.wipe σ vs)[i]? = σ[i]? := fun vs => by
      induction vs with
      | nil => exact fun _ => rfl
      | cons v vs ih =>
        intro i h
        simp only [List.mem_cons, not_or] at h
        unfold L2.wipe
        rw [List.getElem?_set_ne (Ne.symm h.1)]
        exact ih h.2
    exact {
      jo := j
      s0 := m.s0
      t0 := m.t0
      f0 := m.f0
      sub := m.sub
      new := m.new
      len := by rw [len, m.len, wipe_length]
      sh := fun i d h => by
        obtain ⟨h1, h2⟩ := some1 vs h (by simp)
        rw [keep vs h2]
        exact m.sh i d h1
      ow := fun i s d h => by
        obtain ⟨h1, h2⟩ := some1 vs h (by simp)
        rw [keep vs h2]
        exact m.ow i s d h1
      ap := fun i k s t d e ne h1 h2 => m.ap i k s t d e ne (some1 vs h1 (by simp)).1 (some1 vs h2 (by simp)).1 }
theorem MS.mapJ {G : GC} {J J' : L2.St → Prop} {H0 F0 F H : Hp} {fp : Nat → List Addr} {σ : L2.St} {r : Env} (m : MS G J H0 F0 fp F σ H r) (j : J' σ) : MS G J' H0 F0 fp F σ H r := ⟨j, m.s0, m.f0, m.sub, m.new, m.len, m.sh, m.ow, m.ap, m.t0⟩
theorem wipe_wipe : ∀ (vs : List Nat) (σ : L2.St), L2.wipe (L2.wipe σ vs) vs = L2.wipe σ vs := fun vs σ => by
  have at1 : ∀ (vs : List Nat) (σ : L2.St) (i : Nat), (L2.wipe σ vs)[i]? = if i ∈ vs then σ[i]?.map fun _ => none else σ[i]? := fun vs => by
    induction vs with
    | nil => intro σ i; simp [L2.wipe]
    | cons v vs ih =>
      intro σ i
      unfold L2.wipe
      by_cases h : v = i
      · subst h
        rw [if_pos List.mem_cons_self]
        by_cases hv : v < (L2.wipe σ vs).length
        · rw [List.getElem?_set_self hv]
          rw [wipe_length] at hv
          rw [List.getElem?_eq_getElem hv]
          rfl
        · rw [List.getElem?_eq_none (by simpa using hv)]
          rw [wipe_length] at hv
          rw [List.getElem?_eq_none (by simpa using hv)]
          rfl
      · rw [List.getElem?_set_ne h, ih]
        simp only [List.mem_cons, show (i = v) = False from eq_false (Ne.symm h), false_or]
  apply List.ext_getElem?
  intro i
  rw [at1, at1]
  by_cases h : i ∈ vs
  · rw [if_pos h, if_pos h]
    cases σ[i]? <;> rfl
  · rw [if_neg h]
theorem wipe_set {vs : List Nat} {i : Nat} (hi : i ∈ vs) (σ : L2.St) (v : Option V) : L2.wipe (σ.set i v) vs = L2.wipe σ vs := by
  induction vs generalizing i with
  | nil => cases hi
  | cons w vs ih =>
    unfold L2.wipe
    by_cases h : i ∈ vs
    · rw [ih h]
    · have e : i = w := by simpa [h] using hi
      subst e
      have z : ∀ (vs : List Nat) (σ : L2.St), i ∉ vs → L2.wipe (σ.set i v) vs = (L2.wipe σ vs).set i v := fun vs => by
        induction vs with
        | nil => exact fun _ _ => rfl
        | cons x vs ih =>
          intro σ h
          simp only [List.mem_cons, not_or] at h
          unfold L2.wipe
          rw [ih σ h.2, List.set_comm _ _ h.1]
      rw [z vs σ h, List.set_set]
abbrev W0 : Wi := ⟨fun _ _ _ _ => False, fun _ => True⟩
abbrev JB (vs : List Nat) (σ : L2.St) : L2.St → Prop := fun τ => L2.wipe τ vs = L2.wipe σ vs
theorem jb {i : Nat} {vs : List Nat} {σ0 : L2.St} (hi : i ∈ vs) : ∀ (σ : L2.St) (v : Option V), JB vs σ0 σ → JB vs σ0 (σ.set i v) := fun σ v h => (wipe_set hi σ v).trans h
theorem Out.nE {G : GC} {W W' : Wi} {σ τ : L2.St} {α : Type} {F H : Hp} {P : Hp → Hp → α → Prop} {x : Res α} {a : α} (e : nE x = .ok a) (h : ∀ F' H', Grow F H F' H' → P F' H' a) : Out G W σ F H P x := by
  rw [nE_some e]
  exact h
theorem t_lc {G : GC} {b : Bool} {fi : Env → Res (List D)} {g : D → Env → Res Env} {t : Env → Res Bool} {f : Env → Res D} {vs : List Nat} (σ : L2.St) (H : Hp) (Q : VK)
    (h : tE G W (.O .flat) (fun r => fi r >>= fun ds => lcD g t f (wipeR r vs) ds >>= lstD) σ H Q) : tLc (tI G W b fi) (tGd G (JB vs σ) g) (tT G W0 t) (tE G W0 .S f) vs σ H Q := by
  obtain ⟨H0, F0, fp, F, r, m, o⟩ := h
  refine ⟨H0, F0, fp, F, r, m, o.bind fun F1 H1 ds g1 o1 J w D hD => ?_⟩
  cases e : lcD g t f (wipeR r vs) ds with
  | er x =>
    exfalso
    have z : ∀ (ds : List Mir.D) (x : Mir.D), lcD g t f (wipeR r vs) ds ≠ .er x := fun ds => by
      induction ds with
      | nil => exact fun x h => nomatch h
      | cons d ds ih =>
        intro x h
        rw [lcD] at h
        cases e1 : nE (g d (wipeR r vs)) with
        | er y => cases hg : g d (wipeR r vs) <;> (rw [hg] at e1; cases e1)
        | bad => rw [e1] at h; cases h
        | ok r1 =>
          rw [e1] at h
          simp only [ok_bind] at h
          cases e2 : nE (t r1) with
          | er y => cases hg : t r1 <;> (rw [hg] at e2; cases e2)
          | bad => rw [e2] at h; cases h
          | ok bb =>
            rw [e2] at h
            simp only [ok_bind] at h
            cases bb with
            | false => exact ih x h
            | true =>
              rw [if_pos rfl] at h
              cases e3 : nE (f r1) with
              | er y => cases hg : f r1 <;> (rw [hg] at e3; cases e3)
              | bad => rw [e3] at h; cases h
              | ok y =>
                rw [e3] at h
                simp only [ok_bind] at h
                cases e4 : lcD g t f (wipeR r vs) ds with
                | er z => exact ih z e4
                | bad => rw [e4] at h; cases h
                | ok zs => rw [e4] at h; cases h
    exact z _ _ e
  | bad => rw [e] at o1; exact o1.elim
  | ok out =>
    rw [e] at o1
    have hl : out.length ≤ lim := by
      by_cases h : out.length ≤ lim
      · exact h
      · simp only [ok_bind] at o1
        unfold lstD at o1
        rw [if_neg h] at o1
        exact o1.elim
    have o2 : ∀ F' H', Grow F1 H1 F' H' → ∀ v, (Kd.O .flat).Rep G H F' H' v (.lst out) → Q v H' := by
      have o1' : Out G W σ F1 H1 _ (lstD out) := o1
      unfold lstD at o1'
      rw [if_pos hl] at o1'
      exact o1'
    clear o1
    have gD : Grow F1 H1 F1 (upd H1 D (.lst [])) := Grow.own g1.sub hD
    refine ⟨fun i mm H => mm = ds.length - i ∧ i ≤ ds.length ∧ ∃ F acc accD rest, Grow F1 H1 F H ∧ F D = none ∧ H D = some (.lst acc) ∧ RepAll G F acc accD ∧ lcD g t f (wipeR r vs) (ds.drop i) = .ok rest ∧ out = accD ++ rest,
      ⟨ds.length, by simp, Nat.zero_le _, F1, [], [], out, gD, g1.sub.free hD, upd_same, .nil, by rw [List.drop_zero]; exact e, by simp⟩, ?_⟩
    rintro i mm H2 ⟨rfl, hi, F2, acc, accD, rest, g2, nD, hD2, ra, el, eo⟩
    have sB : Same (if b = true then F1 else nT H1) H2 := by
      cases b with
      | true => rw [if_pos rfl]; exact g2.f.trans g2.sub
      | false => exact g2.h.nT
    by_cases hlt : i < ds.length
    · refine .inr ⟨w.goes i H2 hlt sB, fun H' => i + 1 ≤ ds.length ∧ ∃ F acc accD rest, Grow F1 H1 F H' ∧ F D = none ∧ H' D = some (.lst acc) ∧ RepAll G F acc accD ∧ lcD g t f (wipeR r vs) (ds.drop (i + 1)) = .ok rest ∧ out = accD ++ rest,
        fun H' q => ⟨ds.length - (i + 1), by omega, rfl, q.1, q.2⟩, fun x H3 y => ?_⟩
      obtain ⟨F3, d, g3, ed, rx⟩ := w.yields i F2 H2 x H3 hlt g2.f g2.sub sB y
      have e1 : ds.drop i = d :: ds.drop (i + 1) := by
        rw [List.drop_eq_getElem_cons hlt]
        rw [List.getElem?_eq_getElem hlt] at ed
        rw [Option.some.inj ed]
      rw [e1, lcD] at el
      have nD3 : F3 D = none := by
        cases z : F3 D with
        | none => rfl
        | some u =>
          rcases g3.new D u z with q | q
          · rw [nD] at q; cases q
          · rw [hD2] at q; cases q
      cases eg : nE (g d (wipeR r vs)) with
      | er y => rw [eg] at el; cases el
      | bad => rw [eg] at el; cases el
      | ok r1 =>
        rw [eg] at el
        simp only [ok_bind] at el
        have m3 := ((m.grow g1).grow g2).grow g3
        refine ⟨H0, F0, fp, F3, wipeR r vs, d, m3.wipe vs (wipe_wipe vs σ), rx, r1, nE_some eg, fun fp4 σ4 m4 => ⟨m4.jo, ?_⟩⟩
        cases et : nE (t r1) with
        | er y => rw [et] at el; cases el
        | bad => rw [et] at el; cases el
        | ok bb =>
          rw [et] at el
          simp only [ok_bind] at el
          refine ⟨H0, F0, fp4, F3, r1, m4.mapJ trivial, Out.nE (W' := W0) (τ := σ) et fun F5 H5 g5 => ?_⟩
          have g25 := g2.trans (g3.trans g5)
          have D5 : H5 D = some (.lst acc) := g5.h.at _ _ (g3.h.at _ _ hD2)
          have nD5 : F5 D = none := by
            cases z : F5 D with
            | none => rfl
            | some u =>
              rcases g5.new D u z with q | q
              · rw [nD3] at q; cases q
              · rw [g3.h.at _ _ hD2] at q; cases q
          cases bb with
          | false => exact ⟨hlt, F5, acc, accD, rest, g25, nD5, D5, ra.mono (g3.f.trans g5.f), el, eo⟩
          | true =>
            rw [if_pos rfl] at el
            show tE G W0 .S f σ4 H5 _
            cases ex : nE (f r1) with
            | er y => rw [ex] at el; cases el
            | bad => rw [ex] at el; cases el
            | ok dx =>
              rw [ex] at el
              simp only [ok_bind] at el
              cases er : lcD g t f (wipeR r vs) (ds.drop (i + 1)) with
              | er y => rw [er] at el; cases el
              | bad => rw [er] at el; cases el
              | ok rest' =>
                rw [er] at el
                have er2 : rest = dx :: rest' := (Res.ok.inj el).symm
                subst er2
                refine ⟨H0, F0, fp4, F5, r1, (m4.mapJ trivial).grow g5, Out.nE (W' := W0) (τ := σ) ex fun F6 H6 g6 v kv => ⟨acc, g6.h.at _ _ D5, ?_, hlt, F6, acc ++ [v], accD ++ [dx], rest', ?_, ?_, upd_same, (ra.mono ((g3.f.trans g5.f).trans g6.f)).append (.cons kv .nil), rfl, by rw [eo]; simp⟩⟩
                · have hle : acc.length < out.length := by rw [eo, ra.length]; simp
                  exact Nat.lt_of_lt_of_le hle (Nat.le_trans hl lim_le)
                · have g26 := g25.trans g6
                  have nD6 : F6 D = none := by
                    cases z : F6 D with
                    | none => rfl
                    | some u =>
                      rcases g6.new D u z with q | q
                      · rw [nD5] at q; cases q
                      · rw [D5] at q; cases q
                  exact ⟨g26.h.upd hD, g26.f, fun b u q => by rw [upd_ne (ne_of_none q nD6)]; exact g26.sub b u q, g26.new⟩
                · cases z : F6 D with
                  | none => rfl
                  | some u =>
                    rcases g6.new D u z with q | q
                    · rw [nD5] at q; cases q
                    · rw [D5] at q; cases q
    · have ei : i = ds.length := by omega
      subst ei
      rw [List.drop_length] at el
      cases el
      rw [List.append_nil] at eo
      subst eo
      exact .inl ⟨w.stops H2 sB, o2 F2 H2 g2 _ ⟨[D], Own.lst rfl hD2 nD (OwnAll.of_rep ra) (by simp), fun a ha => by rw [List.mem_singleton.mp ha]; exact g1.h.free hD⟩⟩
abbrev RTs (X : Cx) (W : Wi) (es : List Expr) (f : Env → Res Bool) : Prop := PTs X es (tT (gOf X) W f)
theorem PTs.imp {es : List Expr} {t t' : TT} (h : PTs X es t) (i : ∀ σ H Q, t' σ H Q → t σ H Q) : PTs X es t' := ⟨fun pins s σ H Q I hw => h.run pins s σ H Q I (i σ H Q hw)⟩
theorem rts_nil : RTs X W [] (fun _ => .ok true) := PTs.imp pts_nil fun σ H Q ⟨H0, F0, fp, F, r, m, o⟩ => o F H (Grow.refl m.sub)
theorem re_lc {b : Bool} {elt iter : Expr} {ifs : List Expr} {scope : Scope} {fi : Env → Res (List D)} {g : D → Env → Res Env} {t : Env → Res Bool} {f : Env → Res D} (own : List (Str × Nat)) (hc : X.calm = true) (hN : X.N.Nodup) (hi : RI X W b tg iter fi) (ok : BlkOk X.N X.env.scope scope own)
    (hg : ∀ (s : Shared) (H : Hp) (C : Addr) (cl : List (Str × Addr)) (fp : List Addr) (σ : L2.St), RG (X.blk s H scope (compEnvC scope cl C X.env) fp) (JB (own.map (·.2)) σ) tg g)
    (ht : ∀ (s : Shared) (H : Hp) (C : Addr) (cl : List (Str × Addr)) (fp : List Addr), RTs (X.blk s H scope (compEnvC scope cl C X.env) fp) W0 ifs t)
    (he : ∀ (s : Shared) (H : Hp) (C : Addr) (cl : List (Str × Addr)) (fp : List Addr), RE (X.blk s H scope (compEnvC scope cl C X.env) fp) W0 .S elt f) (hs : ∀ x, foldedSetIterable iter X.env x = pure x := by intro _; rfl) :
    RE X W (.O .flat) (.ListComp elt [⟨tg, iter, ifs, 0⟩] scope pos) (fun r => fi r >>= fun ds => lcD g t f (wipeR r (own.map (·.2))) ds >>= lstD) :=
  ⟨fun pins s σ H Q I h => (pe_lc (g := tGd (gOf X) (JB (own.map (·.2)) σ) g) hc hN hi ok (fun s H C cl fp => hg s H C cl fp σ) ht he hs).run pins s σ H Q I (t_lc σ H Q h)⟩
/-- name = [..] on one line, the name a local -/
theorem rs_setLc {k : Kd} {b : Bool} {elt iter : Expr} {ifs : List Expr} {scope : Scope} {fi : Env → Res (List D)} {g : D → Env → Res Env} {t : Env → Res Bool} {f : Env → Res D} {y : Str} {py spos : Pos} (i : Nat) (own : List (Str × Nat)) (hc : X.calm = true) (hN : X.N.Nodup) (hi : RI X W b tg iter fi) (ok : BlkOk X.N X.env.scope scope own)
    (hg : ∀ (s : Shared) (H : Hp) (C : Addr) (cl : List (Str × Addr)) (fp : List Addr) (σ : L2.St), RG (X.blk s H scope (compEnvC scope cl C X.env) fp) (JB (own.map (·.2)) σ) tg g)
    (ht : ∀ (s : Shared) (H : Hp) (C : Addr) (cl : List (Str × Addr)) (fp : List Addr), RTs (X.blk s H scope (compEnvC scope cl C X.env) fp) W0 ifs t)
    (he : ∀ (s : Shared) (H : Hp) (C : Addr) (cl : List (Str × Addr)) (fp : List Addr), RE (X.blk s H scope (compEnvC scope cl C X.env) fp) W0 .S elt f)
    (hJ : ∀ σ v, W.J σ → W.J (σ.set i v) := by first | exact fun _ _ h => h | exact jset (by decide) | exact jfn (by decide)) (hy : X.N[i]? = some y := by rfl) (hyl : X.env.scope.names.lookup y = some .local := by rfl) (hk : X.env.scope.kind = .function := by rfl)
    (ha : (scope.names.any fun (n, k) => n == y && (k == .local || k == .cell)) = false := by decide +kernel) (hl : (py.line == pos.line) = true := by rfl) (hs : ∀ x, foldedSetIterable iter X.env x = pure x := by intro _; rfl) :
    RS X W k (.Assign [.Name y py] (.ListComp elt [⟨tg, iter, ifs, 0⟩] scope pos) spos) (fun r => lift (fi r >>= fun ds => lcD g t f (wipeR r (own.map (·.2))) ds >>= lstD) r fun d => .nx (r.set i (.ow .flat d))) :=
  ⟨fun pins s σ H D I h => (ps_setLc (g := tGd (gOf X) (JB (own.map (·.2)) σ) g) hc hN hy hyl (sw_true hk hyl hl ha) hi ok (fun s H C cl fp => hg s H C cl fp σ) ht he hs).run pins s σ H D I (by
    obtain ⟨H0, F0, fp, F, r, m, o⟩ := h
    refine t_lc σ H _ ⟨H0, F0, fp, F, r, m, OutS.lift m o fun F' H' d gr o' v kv => ?_⟩
    obtain ⟨fp', m'⟩ := m.setNew gr i kv hJ
    exact o' fp' F' _ H' (Same.refl _) m')⟩
end
end Mir
namespace Mir
open PySem PySem.Spec PyProof.Rows L2
variable [Tn]
inductive Tg where
  | t (n : String)
  | c (k : Nat)
  deriving DecidableEq
def tgOf : D → Tg
  | .non => .t "NoneType"
  | .bl _ => .t "bool"
  | .int _ => .t "int"
  | .str _ => .t "str"
  | .tup _ => .t "tuple"
  | .lst _ => .t "list"
  | .scr _ => .t "list"
  | .dic _ _ => .t "dict"
  | .obj c _ => .c c
  | .exc c _ => .c c
  | .cls _ => .t "type"
  | .ty _ => .t "type"
def bS : List String := ["NoneType", "bool", "int", "str", "tuple", "list", "dict"]
def bT : List String := ["int", "bool", "str", "tuple", "list", "dict", "ValueError"]
def clsTg : D → Option Tg
  | .cls c => some (.c c)
  | .ty n => some (.t n)
  | _ => none
def tgV (ca : Nat → Addr) : Tg → Value
  | .t n => .type n
  | .c k => .ref (ca k)
/-- the class b is over the class a -/
def overC (a b : Nat) : Bool := (a == b) || (b == 5 && decide (a < 2)) || (b == 10 && decide (10 < a))
/-- what isinstance says -/
def isaT : Tg → Tg → Bool
  | .t a, .t b => (a == b) || (a == "bool" && b == "int")
  | .t _, .c _ => false
  | .c a, .c b => overC a b
  | .c a, .t b => decide (10 ≤ a) && b == "ValueError"
structure ObjC (K : PySem.W.Frag) (C : Addr) : Prop where
  cl : Cls K C
  ha : PySem.W.findIn K (.ref C) "__class__" = some (some (.builtin "object.__class__"))
  hn : PySem.W.specialIn K (.builtin "object.__class__") "__get__" = some (some (.builtin "getset_descriptor.__get__"))
  ht : PySem.W.takesIn K (.builtin "object.__class__") = some true
  hm : PySem.W.mroIn K C (.type "object") = some true
structure ExcC (K : PySem.W.Frag) (C : Addr) : Prop where
  cl : (PySem.W.clsIn K C).isSome = true
  hg : PySem.W.findIn K (.ref C) "__getattribute__" = some (some (.builtin "BaseException.__getattribute__"))
  hk : PySem.W.findIn K (.ref C) "__getattr__" = some none
  hs : PySem.W.subIn K (.ref C) (.type "BaseException") = some true
  ha : PySem.W.findIn K (.ref C) "__class__" = some (some (.builtin "object.__class__"))
  hn : PySem.W.specialIn K (.builtin "object.__class__") "__get__" = some (some (.builtin "getset_descriptor.__get__"))
  ht : PySem.W.takesIn K (.builtin "object.__class__") = some true
  hm : PySem.W.mroIn K C (.type "object") = some true
/-- the classes cs may be asked for, the classes us may be asked about -/
structure IsM (K : PySem.W.Frag) (ca : Nat → Addr) (cs us : List Nat) : Prop where
  oo : ∀ c ∈ cs, ∀ u ∈ us, PySem.W.kitOne K (.ref (ca c)) (.ref (ca u)) = some (overC c u)
  ot : ∀ c ∈ cs, ∀ u ∈ bT, PySem.W.kitOne K (.ref (ca c)) (.type u) = some (isaT (.c c) (.t u))
  to : ∀ b ∈ bS, ∀ u ∈ us, PySem.W.kitOne K (.type b) (.ref (ca u)) = some false
  ob : ∀ c ∈ cs, c < 10 → ObjC K (ca c)
  ex : ∀ c ∈ cs, 10 ≤ c → ExcC K (ca c)
def okS (cs : List Nat) : Tg → Bool
  | .t n => bS.contains n
  | .c k => cs.contains k
def okD (cs : List Nat) (d : D) : Bool := okS cs (tgOf d) && (match d with
  | .obj c _ => decide (c < 10)
  | .exc c _ => decide (10 ≤ c)
  | _ => true)
def okT (us : List Nat) : Tg → Bool
  | .t n => bT.contains n
  | .c k => us.contains k
theorem bST : ∀ a ∈ bS, ∀ b ∈ bT, kitB a b = some (isaT (.t a) (.t b)) := by decide +kernel
theorem IsM.one {K : PySem.W.Frag} {ca : Nat → Addr} {cs us : List Nat} (M : IsM K ca cs us) {t u : Tg} (h1 : okS cs t = true) (h2 : okT us u = true) : PySem.W.kitOne K (tgV ca t) (tgV ca u) = some (isaT t u) := by
  cases t with
  | t a =>
    have ha : a ∈ bS := by simpa [okS] using h1
    cases u with
    | t b => exact kit_ty (bST a ha b (by simpa [okT] using h2))
    | c k => exact M.to a ha k (by simpa [okT] using h2)
  | c a =>
    have ha : a ∈ cs := by simpa [okS] using h1
    cases u with
    | t b => exact M.ot a ha b (by simpa [okT] using h2)
    | c k => exact M.oo a ha k (by simpa [okT] using h2)
theorem IsM.any {K : PySem.W.Frag} {ca : Nat → Addr} {cs us : List Nat} (M : IsM K ca cs us) {t : Tg} (h1 : okS cs t = true) : ∀ {l : List Tg}, l.all (okT us) = true → PySem.W.kitAny K (tgV ca t) (l.map (tgV ca)) = some (l.any (isaT t))
  | [], _ => rfl
  | u :: l, h => by
    rw [List.all_cons, Bool.and_eq_true] at h
    rw [List.map_cons, List.any_cons]
    refine kitAny_cons (M.one h1 h.1) (fun e => ?_) fun e => ?_
    · rw [e, Bool.false_or]; exact IsM.any M h1 h.2
    · rw [e, Bool.true_or]
def optAll : List D → Option (List Tg)
  | [] => some []
  | d :: ds => match clsTg d, optAll ds with
    | some t, some ts => some (t :: ts)
    | _, _ => none
/-- isinstance over data -/
def isD (cs us : List Nat) (d c : D) : Res D := if okD cs d = true then (match clsTg c with
    | some u => if okT us u = true then .ok (.bl (isaT (tgOf d) u)) else .bad
    | none => match c with
      | .tup es => match optAll es with
        | some l => if l.all (okT us) = true then .ok (.bl (l.any (isaT (tgOf d)))) else .bad
        | none => .bad
      | _ => .bad) else .bad
theorem ne_isD {cs us : List Nat} : NoEr2 (isD cs us) := fun a b e z => by
  unfold isD at z
  split at z
  · split at z
    · split at z <;> cases z
    · split at z
      · split at z
        · split at z <;> cases z
        · cases z
      · cases z
  · cases z
section
variable {X : Cx} {pins : List (Addr × Obj)} {σ : L2.St} {H F : Hp} {s : Shared}
theorem kit_rd {cs us : List Nat} {v : V} {u : Value} {d : D} (M : IsM X.K (gOf X).ca cs us) (I : L2.Inv X pins σ H s) (sF : Same F H) (h : RdD (gOf X) F H v d) (r : RelV v u) (hk : okD cs d = true) :
    ∃ P : Heap → Prop, PySem.W.KitX X.K u (tgV (gOf X).ca (tgOf d)) P ∧ P s.heap ∧ u ≠ .builtin "__main__.__loader__#opaque" := by
  cases d with
  | non => rw [RdD.non h] at r; exact kit_of I r (.base .non)
  | bl b => rw [RdD.bl h] at r; exact kit_of I r (.base (.bl b))
  | int i => rw [RdD.int h] at r; exact kit_of I r (.base (.int i))
  | str z => rw [RdD.str h] at r; exact kit_of I r (.base (.str z))
  | tup ds =>
    obtain ⟨a, vs, rfl, q, _⟩ := h.tup sF
    rcases q with (q | ⟨o, q⟩) | ⟨o, its, n, q, c, _⟩
    · exact kit_of I r (.base (.tup q))
    · exact kit_of I r (.fTuple q)
    · exact kit_of I r (.kTuple q c)
  | lst ds =>
    obtain ⟨a, vs, rfl, q, _⟩ := h.lst sF
    exact kit_of I r (.base (.lst q))
  | scr ns =>
    obtain ⟨a, rfl, q⟩ := h.scr sF
    rcases q with (q | ⟨o, q⟩) | ⟨o, its, n, q, c, _⟩
    · exact kit_of I r (.base (.lst q))
    · exact kit_of I r (.base (.frz q))
    · exact kit_of I r (.kList q c)
  | dic ks vs =>
    obtain ⟨a, o, xs, ws, rfl, q, _, dd, _⟩ := h.dic sF
    cases (show u = Value.ref a from r)
    obtain ⟨e, _⟩ := (show ObjOk X.prog X.w H s.heap a (.ext (isObj' a o)) from I.hok a _ q)
    exact ⟨_, PySem.W.kitx_dict, ⟨o, e, dd.ex.1⟩, fun z => nomatch z⟩
  | obj c vs =>
    unfold okD at hk
    rw [Bool.and_eq_true] at hk
    have hc : c ∈ cs := by simpa [okS, tgOf] using hk.1
    have O := M.ob c hc (of_decide_eq_true hk.2)
    obtain ⟨a, dx, fs, rfl, q⟩ := h.obj sF
    exact kit_of I r (.base (.ins q O.cl O.ha O.hn O.ht O.hm))
  | exc c vs =>
    unfold okD at hk
    rw [Bool.and_eq_true] at hk
    have hc : c ∈ cs := by simpa [okS, tgOf] using hk.1
    have O := M.ex c hc (of_decide_eq_true hk.2)
    rcases h with h | ⟨A, h⟩
    · have ins : ∀ {a : Addr} {d : Option Addr} {od : Option Obj}, (∃ oe us, s.heap.get? a = some oe ∧ oe.cls = .ref ((gOf X).ca c) ∧ oe.dict = d ∧ oe.data = .fields us) → (match d, od with | some dx, some o => s.heap.get? dx = some o | none, none => True | _, _ => False) → ∃ oe, PySem.W.InstAt s.heap a oe ((gOf X).ca c) od := fun {a d od} ⟨oe, us, h1, h2, h3, h4⟩ hd =>
        ⟨oe, h1, h2, by unfold PySem.W.notCls; rw [h4], by rw [h3]; exact hd⟩
      have fin : ∀ {a : Addr} {oe : Obj} {od : Option Obj}, PySem.W.InstAt s.heap a oe ((gOf X).ca c) od → u = .ref a → ∃ P : Heap → Prop, PySem.W.KitX X.K u (tgV (gOf X).ca (tgOf (.exc c vs))) P ∧ P s.heap ∧ u ≠ .builtin "__main__.__loader__#opaque" := fun {a oe od} J e => by
        subst e
        exact ⟨_, PySem.W.kitx_exc O.cl O.hg O.hk O.hs O.ha O.hn O.ht O.hm, J, fun z => nomatch z⟩
      cases h with
      | exc h1 _ =>
        obtain ⟨e, _⟩ := (show ObjOk X.prog X.w H s.heap _ (.ext (isExc _ ((gOf X).ca c) none)) from I.hok _ _ (sF _ _ h1))
        obtain ⟨oe, J⟩ := ins (od := none) e trivial
        exact fin J r
      | excF h1 h2 _ _ =>
        obtain ⟨e, _⟩ := (show ObjOk X.prog X.w H s.heap _ (.ext (isExc _ ((gOf X).ca c) (some _))) from I.hok _ _ (sF _ _ h1))
        obtain ⟨mA, ⟨od, _, _, e2, _⟩, _⟩ := (show ObjOk X.prog X.w H s.heap _ (.xd _) from I.hok _ _ (sF _ _ h2))
        obtain ⟨oe, J⟩ := ins (od := some od) e e2
        exact fin J r
    · cases h
  | cls c => cases hk
  | ty n => cases hk
theorem cls_val {F : Hp} {v : V} {d : D} {u : Value} {t : Tg} (h : Rep (gOf X) F v d) (e : clsTg d = some t) (r : RelV v u) : u = tgV (gOf X).ca t := by
  cases h with
  | cls hm =>
    cases e
    have r' : u = .ref _ := r
    rw [r']
    show Value.ref _ = .ref ((gOf X).ca _)
    rw [ca_of hm]
  | ty n =>
    cases e
    exact r
  | _ => cases e
theorem cls_vals {F : Hp} : ∀ {vs : List V} {ds : List D} {us : List Value} {l : List Tg}, RepAll (gOf X) F vs ds → optAll ds = some l → Vals vs us → us = l.map (tgV (gOf X).ca)
  | _, _, _, _, .nil, e, .nil => by cases e; rfl
  | _, _, _, _, .cons r t, e, .cons q k => by
    rw [optAll] at e
    split at e
    · rename_i a b h1 h2
      cases e
      rw [cls_val r h1 q, cls_vals t h2 k]
      rfl
    · cases e
theorem RdD.clsS {v : V} {d : D} {t : Tg} (h : RdD (gOf X) F H v d) (e : clsTg d = some t) : Rep (gOf X) F v d := by
  rcases h with h | ⟨A, h⟩
  · exact h
  · cases h <;> cases e
def rIs (X : Cx) (cs us : List Nat) : List V → Hp → VK → Prop := fun xs H Q => ∃ (F : Hp) (x y : V) (d c e : D), xs = [x, y] ∧ Same F H ∧ RdD (gOf X) F H x d ∧ RdD (gOf X) F H y c ∧ isD cs us d c = .ok e ∧ ∀ v, Rep (gOf X) F v e → Q v H
theorem call_is {cs us : List Nat} (M : IsM X.K (gOf X).ca cs us) : CallR X (.builtin "isinstance") (rIs X cs us) := by
  intro pins s σ H xs ws Q I r h
  obtain ⟨F, x, y, d, c, e, rfl, sF, hd, hc, he, q⟩ := h
  obtain ⟨u1, u2, rfl, r1, r2⟩ := vals2 r
  unfold isD at he
  split at he
  · rename_i hok
    obtain ⟨P, Z, p, hx⟩ := kit_rd M I sF hd r1 hok
    have hok : okS cs (tgOf d) = true := by
      unfold okD at hok
      rw [Bool.and_eq_true] at hok
      exact hok.1
    split at he
    · rename_i t ht
      split at he <;> cases he
      rename_i h2
      have e2 := cls_val (hc.clsS ht) ht r2
      subst e2
      exact PySem.W.kia_one Z I.kIn p (M.one hok h2) hx fun tk => ⟨.bl _, H, I.tok tk, rfl, q _ (.bl _)⟩
    · split at he
      · rename_i es
        split at he
        · rename_i l hl
          split at he <;> cases he
          rename_i h2
          obtain ⟨a, vs, rfl, q1, ra⟩ := hc.tup sF
          cases (show u2 = Value.ref a from r2)
          obtain ⟨its, rv, ⟨o, h1, h2', n, h3⟩, _⟩ := I.tuple q1
          have e3 := cls_vals ra hl rv
          subst e3
          obtain ⟨oc, od, dt, sl⟩ := o
          simp only at h2' h3
          subst h2' h3
          exact PySem.W.kia_tup Z I.kIn p h1 (M.any hok h2) hx fun tk => ⟨.bl _, H, I.tok tk, rfl, q _ (.bl _)⟩
        · cases he
      · cases he
  · cases he
theorem boot_isi : bootBuiltins "isinstance" = some (.builtin "isinstance") := by decide +kernel
theorem b_is {cs us : List Nat} (M : IsM X.K (gOf X).ca cs us) (hm : X.mg "isinstance" = none) : BlM X "isinstance" .S (two (isD cs us)) := BlM.b hm boot_isi (call_is M) (ne_two ne_isD) (cal_two fun F H x y a b d Q s ra rb e q => ⟨F, x, y, a, b, d, rfl, s, ra, rb, e, fun v rv => q v F H (Grow.refl s) rv⟩)
def lenD : D → Res D
  | .lst ds => .ok (.int ds.length)
  | .tup ds => .ok (.int ds.length)
  | .scr ns => .ok (.int ns.length)
  | .str z => if z.length ≤ lim then .ok (.int z.length) else .bad
  | .dic ks _ => .ok (.int ks.length)
  | _ => .bad
mutual
theorem nested_of (I : L2.Inv X pins σ H s) (sF : Same F H) : ∀ {v : V} {d : D} {u : Value} {k : NestedKey}, Rep (gOf X) F v d → keyOf d = some k → RelV v u → NestedIs s.heap k u
  | _, _, _, _, .non, e, r => by
    simp only [keyOf, Option.some.injEq] at e
    subst e
    cases (show _ = Value.none from r)
    exact .none
  | _, _, _, _, .bl b, e, r => by
    simp only [keyOf, Option.some.injEq] at e
    subst e
    cases (show _ = Value.bool b from r)
    exact .bool rfl
  | _, _, _, _, .int i, e, r => by
    simp only [keyOf, Option.some.injEq] at e
    subst e
    obtain ⟨t, q⟩ := (show ∃ t, _ = Value.int i t from r)
    cases q
    exact .int i t
  | _, _, _, _, .str z, e, r => by
    simp only [keyOf, Option.some.injEq] at e
    subst e
    obtain ⟨t, q⟩ := (show ∃ t, _ = Value.str z t from r)
    cases q
    exact .text z t
  | _, _, _, _, .tup h ra, e, r => by
    simp only [keyOf, Option.map_eq_some_iff] at e
    obtain ⟨ks, e1, e2⟩ := e
    subst e2
    cases (show _ = Value.ref _ from r)
    obtain ⟨its, rv, ⟨o, h1, h2, n, h3⟩, _⟩ := I.tuple (Same.sqT sF h)
    exact .tup h1 h2 h3 (nested_all I sF ra e1 rv)
  | _, _, _, _, .lst _ _, e, _ => by simp [keyOf] at e
  | _, _, _, _, .scr _, e, _ => by simp [keyOf] at e
  | _, _, _, _, .dic _ _ _ _ _ _ _, e, _ => by simp [keyOf] at e
  | _, _, _, _, .obj _ _ _, e, _ => by simp [keyOf] at e
  | _, _, _, _, .exc _ _, e, _ => by simp [keyOf] at e
  | _, _, _, _, .excF _ _ _ _, e, _ => by simp [keyOf] at e
  | _, _, _, _, .cls _, e, _ => by simp [keyOf] at e
  | _, _, _, _, .ty _, e, _ => by simp [keyOf] at e
theorem nested_all (I : L2.Inv X pins σ H s) (sF : Same F H) : ∀ {vs : List V} {ds : List D} {us : List Value} {ks : List NestedKey}, RepAll (gOf X) F vs ds → keyOf.keysOf ds = some ks → Vals vs us → NestedAll s.heap ks us
  | _, _, _, _, .nil, e, rv => by
    simp only [keyOf.keysOf, Option.some.injEq] at e
    subst e
    cases rv
    exact .nil
  | _, _, _, _, .cons r t, e, rv => by
    rw [keyOf.keysOf] at e
    split at e
    · rename_i a b h1 h2
      cases e
      cases rv with
      | cons q k => exact .cons (nested_of I sF r h1 q) (nested_all I sF t h2 k)
    · cases e
end
/-- the entries' keys stand -/
theorem keys_is (I : L2.Inv X pins σ H s) (sF : Same F H) : ∀ {xs : List (NestedKey × Addr × Value)} {ks : List D}, RepAll (gOf X) F (xs.map fun x => V.ref x.2.1) ks → ks.map keyOf = xs.map (fun x => some x.1) → (∀ x ∈ xs, x.1.depth ≤ 8) → ∀ x ∈ xs, (nestedKind X.prog X.w).is s.heap x.1 x.2.1
  | [], _, _, _, _, _, h => nomatch h
  | y :: ys, _, .cons r t, e, d, x, h => by
    rw [List.map_cons, List.map_cons, List.cons.injEq] at e
    rcases List.mem_cons.mp h with z | z
    · subst z
      exact ⟨nested_of I sF r e.1 rfl, d x List.mem_cons_self⟩
    · exact keys_is I sF t e.2 (fun x hx => d x (List.mem_cons_of_mem _ hx)) x z
theorem dic_of (I : L2.Inv X pins σ H s) (sF : Same F H) {p : Addr} {o : Obj} {xs : List (NestedKey × Addr × Value)} {ks : List D} (hp : H p = some (.ext (isObj' p o))) (dd : DicO (gOf X) o xs) (h : RepAll (gOf X) F (xs.map fun x => V.ref x.2.1) ks) (e : ks.map keyOf = xs.map (fun x => some x.1)) :
    s.heap.DictOfH (nestedKind X.prog X.w) p xs := by
  obtain ⟨q, _⟩ := (show ObjOk X.prog X.w H s.heap p (.ext (isObj' p o)) from I.hok p _ hp)
  obtain ⟨ents, ep, h1, h2⟩ := dd.dat
  exact ⟨o, ents, ep, q, dd.ex, h1, h2, keys_is I sF h e dd.dp, dd.nd⟩
def rLenH (X : Cx) : List V → Hp → VK → Prop := fun xs H Q => ∃ (F : Hp) (p : Addr) (o : Obj) (es : List (NestedKey × Addr × Value)) (ks : List D), xs = [.ref p] ∧ H p = some (.ext (isObj' p o)) ∧ (p == sysModules) = false ∧ Same F H ∧ DicO (gOf X) o es ∧ RepAll (gOf X) F (es.map fun x => V.ref x.2.1) ks ∧ ks.map keyOf = es.map (fun x => some x.1) ∧ Q (.int ((es.length : Nat) : Int)) H
theorem call_lenH : CallR X (.builtin "len") (rLenH X) := by
  intro pins s σ H xs us Q I r h
  obtain ⟨F, p, o, es, ks, rfl, hp, hsys, sF, dd, hr, hk, q⟩ := h
  obtain ⟨u, rfl, rx⟩ := vals1 r
  cases (show u = Value.ref p from rx)
  have hl := dd.sz
  have h63 := line63
  exact call_len_dictH (knd := nestedKind X.prog X.w) hsys (dic_of I sF hp dd hr hk) (by omega) ⟨.int es.length, H, I.tok _, ⟨_, rfl⟩, q⟩
theorem boot_len' : bootBuiltins "len" = some (.builtin "len") := by decide +kernel
theorem b_len (hm : X.mg "len" = none) : BlM X "len" .S (one lenD) := BlM.b hm boot_len' ((call_len_seq.or call_len_str).or call_lenH) (ne_one fun d e z => by unfold lenD at z; split at z <;> (try split at z) <;> cases z) (cal_one fun F H x a d Q s ra e q => by
  unfold lenD at e
  split at e
  · cases e
    obtain ⟨p, vs, rfl, h1, r1⟩ := ra.lst s
    exact .inl (.inl ⟨p, vs, rfl, .inl (.of h1), by rw [r1.length]; exact q _ F H (Grow.refl s) (Rep.int _)⟩)
  · cases e
    obtain ⟨p, vs, rfl, h1, r1⟩ := ra.tup s
    exact .inl (.inl ⟨p, vs, rfl, .inr h1, by rw [r1.length]; exact q _ F H (Grow.refl s) (Rep.int _)⟩)
  · cases e
    obtain ⟨p, rfl, h1⟩ := ra.scr s
    exact .inl (.inl ⟨p, _, rfl, .inl h1, by rw [List.length_map]; exact q _ F H (Grow.refl s) (Rep.int _)⟩)
  · split at e <;> cases e
    rename_i h
    exact .inl (.inr ⟨_, by rw [ra.str], Nat.le_trans h lim_le, q _ F H (Grow.refl s) (Rep.int _)⟩)
  · cases e
    obtain ⟨p, o, xs, ws, rfl, h1, z1, z2, z3, z4, z5, z6⟩ := ra.dic s
    rename_i ks vs
    have hl : xs.length = ks.length := by have := congrArg List.length z5; simpa using this.symm
    exact .inr ⟨F, p, o, xs, ks, rfl, h1, z1, s, z2, z4, z5, by rw [hl]; exact q _ F H (Grow.refl s) (Rep.int _)⟩
  · cases e)
end
end Mir
namespace Mir
open PySem PySem.Spec PyProof.Rows L2
variable [Tn]
section
variable {X : Cx} {pins : List (Addr × Obj)} {σ : L2.St} {H : Hp} {s sI : Shared} {a : Addr}
theorem isExc_ok {P : Program} {w : World} {H : Hp} {h : Heap} {a C : Addr} {d : Option Addr} {oe : Obj} {vs : Array Value} (e : h.get? a = some oe) (z : Zc (.ref C) d oe) (hd : oe.data = .fields vs) : ObjOk P w H h a (.ext (isExc a C d)) :=
  ⟨⟨oe, vs, e, z.1, z.2, hd⟩, ⟨oe, e⟩, fun _ _ ⟨o, v, q, r⟩ k => ⟨o, v, k o q, r⟩⟩
end
section
variable {X : Cx} {W : Wi} {k : Kd} {C : Addr} {c : Nat} {x : Str} {p pos pos2 : Pos} {e o : Expr} {es : List Expr}
/-- an error's attribute f, by classes: its place -/
structure FldX (K : PySem.W.Frag) (ca : Nat → Addr) (f : Str) (p : Nat → Option Nat) : Prop where
  h : ∀ c i, p c = some i → (cflds c)[i]? = some f ∧ (cflds c).Nodup ∧ XfC K (ca c) ∧ PySem.W.findIn K (.ref (ca c)) f = some none
def fldE (p : Nat → Option Nat) (d : D) : Res D := match d with
  | .exc c vs => match p c with
    | some i => match vs[i]? with
      | some d => .ok d
      | none => .bad
    | none => .bad
  | _ => .bad
theorem fldE_er {p : Nat → Option Nat} {d e : D} (h : fldE p d = .er e) : False := by
  unfold fldE at h
  split at h
  · split at h
    · split at h <;> cases h
    · cases h
  · cases h
theorem fldE_ok {p : Nat → Option Nat} {d e : D} (h : fldE p d = .ok e) : ∃ c vs i, d = .exc c vs ∧ p c = some i ∧ vs[i]? = some e := by
  unfold fldE at h
  split at h
  · rename_i c vs
    split at h
    · rename_i i hp
      split at h
      · rename_i d' hv
        cases h
        exact ⟨c, vs, i, rfl, hp, hv⟩
      · cases h
    · cases h
  · cases h
theorem re_exf {f : Str} {pt : Nat → Option Nat} {fo : Env → Res D} (M : FldX X.K (gOf X).ca f pt) (ho : RE X W .S o fo) (hb : attributeBase o f X.env (eval o X.env) = eval o X.env := by rfl) : RE X W .S (.Attribute o f pos) (fun r => fo r >>= fldE pt) := by
  refine ⟨fun pins s σ H Q I ⟨H0, F0, fp, F, r, m, oo⟩ => ?_⟩
  have hw : tE (gOf X) W .S fo σ H (fun v H' => ∃ F' w a dx c ws, Same F' H' ∧ v = .ref a ∧ F' a = some (.ext (isExc a ((gOf X).ca c) (some dx))) ∧ F' dx = some (.xd ((cflds c).zip ws)) ∧ ((cflds c).zip ws).lookup f = some w ∧ XfC X.K ((gOf X).ca c) ∧ PySem.W.findIn X.K (.ref ((gOf X).ca c)) f = some none ∧ Q w H') := by
    refine ⟨H0, F0, fp, F, r, m, oo.bind fun F' H' d gr o2 v kv => ?_⟩
    cases ef : fldE pt d with
    | er x => exact (fldE_er ef).elim
    | bad => rw [ef] at o2; exact o2.elim
    | ok d' =>
      obtain ⟨c, vs, i, rfl, hp, hv⟩ := fldE_ok ef
      rw [ef] at o2
      obtain ⟨h1, h2, h3, h4⟩ := M.h c i hp
      have kv' : Rep (gOf X) F' v (.exc c vs) := kv
      cases kv' with
      | exc _ z => rw [z] at h1; cases h1
      | @excF a dx _ ws _ e1 e2 hl ra =>
        obtain ⟨w, hw, rw'⟩ := ra.get hv
        exact ⟨F', w, a, dx, c, ws, gr.sub, rfl, e1, e2, lookup_zip h2 h1 hw, h3, h4, o2 F' H' (Grow.refl gr.sub) w rw'⟩
  refine attr_of hb (thn (ho.run pins s σ H _ I hw) fun u s1 ⟨x, H1, I1, rx, F', w, a, dx, c, ws, sF, ex, e1, e2, l, T, hno, q⟩ => ?_)
  subst ex
  obtain rfl : u = Value.ref a := rx
  obtain ⟨⟨oe, vs, ha, hc, hdd, hd⟩, _⟩ := (show ObjOk X.prog X.w H1 s1.heap a (.ext (isExc a ((gOf X).ca c) (some dx))) from I1.hok a _ (sF _ _ e1))
  obtain ⟨mA, hns, hr⟩ := (show ObjOk X.prog X.w H1 s1.heap dx (.xd ((cflds c).zip ws)) from I1.hok dx _ (sF _ _ e2))
  obtain ⟨od, ho2, hl⟩ := lookIn_ns hns
  obtain ⟨u, hu, ru⟩ := RelO.some_of (v := w) (o := mA f) (by rw [← l]; exact hr f)
  have J : PySem.W.InstAt s1.heap a oe ((gOf X).ca c) (some od) := ⟨ha, hc, by unfold PySem.W.notCls; rw [hd] <;> rfl, by rw [hdd]; exact ho2⟩
  exact HandSPX.exc_get I1.kIn J T.ga T.gg T.exC (PySem.W.findObj_own T.hdC hno rfl (by rw [hl, hu])) (handed_of ru) ⟨w, H1, I1.tok _, ru, q⟩
end
section
variable {X : Cx} {pins : List (Addr × Obj)} {σ : L2.St} {H : Hp} {s sI : Shared} {a : Addr}
/-- a suite's context, the error tracked -/
theorem Inv.suit (I : L2.Inv X pins σ H s) {o : HO} {oe : Obj} {vs : Array Value} (hx : X.ex = []) (J : L2.Inv X pins σ H sI) (nI : sI.heap.get? a = none) (ha : s.heap.get? a = some oe) (hd : oe.data = .fields vs) (na : H a = none) (nL : a ≠ X.env.locals) (new : ObjOk X.prog X.w (upd H a o) s.heap a o) :
    L2.Inv (X.suite a (X.pn ++ pins)) [] σ (upd H a o) s where
  ok := I.ok.suite _ _
  os := I.os
  bare := I.bare
  base := {
    keep := I.base.keep
    slot := I.base.slot
    free := fun b u e n hb => by
      rw [upd_ne ?_]
      · exact I.base.free b u e n hb
      · rintro rfl
        obtain ⟨o', e'⟩ := J.base.there b u e (by show b ∉ X.ex; rw [hx]; simp)
        rw [nI] at e'
        cases e'
    there := I.base.there
    tups := fun b xs e => by rw [upd_ne (ne_of_none (I.base.tups b xs e) na)]; exact I.base.tups b xs e
    frzs := fun b u xs e => by rw [upd_ne (ne_of_none (I.base.frzs b u xs e) na)]; exact I.base.frzs b u xs e
    tbls := fun b ps e => by
      obtain ⟨more, q⟩ := I.base.tbls b ps e
      exact ⟨more, by rw [upd_ne (ne_of_none q na)]; exact q⟩ }
  loc := I.loc
  cell := I.cell
  free := by rw [upd_ne (Ne.symm nL)]; exact I.free
  freeC := fun x c e => by
    rw [upd_ne ?_]
    · exact I.freeC x c e
    · rintro rfl
      obtain ⟨v, o', q1, q2⟩ := I.cell x c e
      rw [ha] at q1
      cases q1
      rw [hd] at q2
      cases q2
  pin := fun p hp => by
    have hp' : p ∈ X.pn ++ pins := by rw [List.append_nil] at hp; exact hp
    obtain ⟨q1, q2, q3⟩ := I.pin p hp'
    refine ⟨q1, ?_, q3⟩
    rw [upd_ne ?_]
    · exact q2
    · rintro rfl
      have z := (J.pin p hp').1
      rw [nI] at z
      cases z
  hok := I.hok.laidN (fun _ _ z => z) na new
  len := I.len
theorem Inv.unsuit {pn' : List (Addr × Obj)} {H' : Hp} (I : L2.Inv (X.suite a (X.pn ++ pins)) pn' σ H' s) (ok : X.Ok) : L2.Inv X pins σ H' s :=
  ⟨ok, I.os, I.bare, I.base, I.loc, I.cell, I.free, I.freeC, fun p hp => I.pin p (List.mem_append_left _ hp), I.hok, I.len⟩
end
/-- an except clause: its class, its name's slot -/
structure Cl where
  c : Value
  i : Option Nat
  t : TS
def clEnds (D : Ends) : Option Nat → Ends
  | none => D
  | some i => { nx := fun σ' H' => D.nx (σ'.set i none) H', rt := D.rt, bk := fun σ' H' => D.bk (σ'.set i none) H', ct := fun σ' H' => D.ct (σ'.set i none) H' }
def clSt (σ : L2.St) (a : Addr) : Option Nat → L2.St
  | none => σ
  | some i => σ.set i (some (.ref a))
def wTry (K : PySem.W.Frag) (Wout : WX) (D : Ends) : List Cl → WX
  | [] => Wout
  | q :: r => fun cls d σ H => ∃ b, PySem.W.exmOne K cls q.c = some b ∧ (b = true → ∃ C, cls = .ref C ∧ ∀ a, H a = none → q.t (clEnds D q.i) (clSt σ a q.i) (upd H a (.ext (isExc a C d)))) ∧ (b = false → wTry K Wout D r cls d σ H)
inductive ClsOk (X : Cx) : List ExceptHandler → List Cl → Prop
  | nil : ClsOk X [] []
  | one {x : Str} {q : Cl} {b₀ : Stmt} {suite : List Stmt} {np pos' : Pos} {hds : List ExceptHandler} {l : List Cl} (hc : Names X x q.c) (hi : q.i = none)
      (hsu : ∀ (a : Addr) (pn : List (Addr × Obj)), PSs (X.suite a pn) (b₀ :: suite) q.t) (r : ClsOk X hds l) : ClsOk X (.ExceptHandler (some (.Name x np)) none (b₀ :: suite) pos' :: hds) (q :: l)
  | as {x n : Str} {i : Nat} {q : Cl} {b₀ : Stmt} {suite : List Stmt} {np pos' : Pos} {hds : List ExceptHandler} {l : List Cl} (hc : Names X x q.c) (hi : q.i = some i) (hn : X.N[i]? = some n) (hln : X.env.kindOf n = some .local)
      (hsu : ∀ (a : Addr) (pn : List (Addr × Obj)), PSs (X.suite a pn) (b₀ :: suite) q.t) (r : ClsOk X hds l) : ClsOk X (.ExceptHandler (some (.Name x np)) (some n) (b₀ :: suite) pos' :: hds) (q :: l)
section
variable {X : Cx} {body : List Stmt} {h₀ : ExceptHandler} {hds : List ExceptHandler} {l : List Cl} {pos : Pos} {tb : WX → TS} {Wout : WX}
theorem ps_try (hs : X.stack = X.env :: X.outer) (hf : X.env.frame = some X.env.locals) (hx : X.ex = []) (hN : X.N.Nodup) (tk : Takes X Wout)
    (hb : ∀ (W : WX) (pn : List (Addr × Obj)) (xe : Value → Shared → Prop), Takes (X.tr pn xe) W → PassesOwn (model X.prog X.w) X.A X.env xe → PSs (X.tr pn xe) body (tb W))
    (hh : ClsOk X (h₀ :: hds) l) : PS X (.Try body (h₀ :: hds) [] [] pos) (fun D σ H => tb (wTry X.K Wout D l) D σ H) := by
  refine ⟨fun pins s σ H D I h => ?_⟩
  have ok := I.ok
  have hfr : X.A.frames = some (X.env :: X.outer) := by rw [ok.frames, hs]
  refine wpAny_Try_except ?_
  refine wpAny_mono ((hb (wTry X.K Wout D l) (X.pn ++ pins) (fun e s₁ => wpAny (model X.prog X.w) X.A (noteFrame e X.env) (fun _ s₂ => wpAny (model X.prog X.w) X.A (setFlight e none) (fun _ s₃ =>
    wpAny (model X.prog X.w) X.A (handleBy e X.env (h₀ :: hds)) (SP X pins D) X.xe s₃) X.xe s₂) X.xe s₁) (fun u s' xx => ?_) PassesOwn.looking).run [] s σ H D (I.toTry _) h) (fun f s1 hsp => ?_) (fun e s1 he => he)
  · obtain ⟨a, B, sI, pins', σ', H', cls, d, rfl, J', nb, up, sky, na, os, ag, w⟩ := xx
    have J : L2.Inv X pins σ' H' sI := J'.ofTry ok
    have sky' : Sky B (X.env :: X.outer) a (Zc cls d) X.env.locals s'.heap := by rw [← hs]; exact sky
    show wpAny (model X.prog X.w) X.A (noteFrame (.ref a) X.env) _ _ _
    refine Sky.land Zc.steady hfr hf sky' fun h3 fl3 up3 => ?_
    have J3 : L2.Inv X pins σ' H' { s' with heap := h3 } := J.landed nb fl3.1 (up.trans up3) os ag
    obtain ⟨oe3, vs3, he3, hz3, hd3⟩ := fl3.there
    have notFr : ∀ {h : Heap} {o : Obj} {vs : Array Value}, h.FunFrames B (X.env :: X.outer) → h.get? a = some o → o.data = .fields vs → a ∉ frs (X.env :: X.outer) := fun {h o vs} ff e dd hm => by
      obtain ⟨_, o', e', hnf⟩ := ff.mem hm
      rw [e] at e'; cases e'
      exact hnf _ dd
    have nfr := notFr fl3.2.2.1 he3 hd3
    have nL : a ≠ X.env.locals := fun z => nfr (List.mem_filterMap.mpr ⟨X.env, List.mem_cons_self, by rw [hf, z]⟩)
    have nF : a ∉ X.fs := fun hm => by
      obtain ⟨e, he, q⟩ := List.mem_filterMap.mp hm
      exact nfr (List.mem_filterMap.mpr ⟨e, List.mem_cons_of_mem _ he, q⟩)
    have nI : sI.heap.get? a = none := by
      cases q : sI.heap.get? a with
      | none => rfl
      | some o =>
        have z := nb a o q (by rw [hs]; exact nfr)
        have z2 : B.get? a = none := fl3.2.1
        rw [z2] at z
        cases z
    have S3 := J3.suite he3 hd3 na nL nF
    have go : ∀ {hds' : List ExceptHandler} {l' : List Cl}, ClsOk X hds' l' → wTry X.K Wout D l' cls d σ' H' →
        wpAny (model X.prog X.w) X.A (handleBy (.ref a) X.env hds') (SP X pins D) X.xe { s' with heap := h3 } := by
      intro hds' l' hk
      have test0 : ∀ {x : Str} {c : Value} {np : Pos}, Names X x c → ∀ {Q : Value → Shared → Prop} {E : Value → Shared → Prop}, Q c { s' with heap := h3 } → wpAny (model X.prog X.w) (X.A.mark (some (.ref a))) (eval (.Name x np) X.env) Q E { s' with heap := h3 } := fun {x c np} hc {Q E} q => by
        obtain ⟨hg, hdbg, hm | ⟨hm, hv, hnn⟩⟩ := hc
        · exact ld_glob (X := X.suite a ((a, oe3) :: (X.pn ++ pins))) S3 hg hm q hdbg
        · exact ld_blt (X := X.suite a ((a, oe3) :: (X.pn ++ pins))) S3 hg hm hv q hnn hdbg
      have LT : PySem.W.Looks (model X.prog X.w) h3 (typeOf (.ref a)) cls := fun A Q E s k q => wpAny_typeOf_ref (k _ _ he3) (by rw [hz3.1]; exact q)
      induction hk with
      | nil =>
        intro w
        refine wpAny_handleBy_nil ?_
        obtain ⟨k1, k2, k3, oe, vs, T, oT, ts', he, hz, hd, h1, hr⟩ := id fl3
        unfold PySem.passOn
        refine wpAny_bind (wpAny_field he hd h1 ?_)
        rw [if_neg (show ¬ ((Value.ref T == Value.none) = true) from by simp)]
        have fin : wpAny (model X.prog X.w) X.A (setFlight (.ref a) X.env.frame) (fun _ s4 => wpAny (model X.prog X.w) X.A (throw (.ref a) : Sem Flow) (SP X pins D) X.xe s4) X.xe { s' with heap := h3 } := by
          rw [hf]
          refine HandSPX.setFlight_upZ fl3 fun h4 hh4 up4 => wpAny_throw (tk _ _ ?_)
          exact ⟨a, B, sI, pins, σ', H', cls, d, rfl, J, nb, (up.trans up3).trans up4, .inr (.inr (by rw [hs]; exact hh4)), na, os, ag, w⟩
        first
          | exact wpAny_bind (wpAny_pure (wpAny_bind fin))
          | exact wpAny_bind fin
      | @one x q b₀ suite np pos' hds2 l2 hc hi hsu r ih =>
        intro w
        obtain ⟨b, hb1, hyes, hno⟩ := w
        refine wpAny_handleBy_cons (codeAny_handlers_test ?_) (by intro q; cases q)
        have LM := PySem.W.exm_one (M := model X.prog X.w) (J3.kIn) LT hb1
        refine test0 hc (LM.here ?_)
        cases b with
        | true =>
          obtain ⟨C, rfl, hy⟩ := hyes rfl
          refine codeAny_handlers_suite ?_
          refine HandSPX.lands_againZ fl3 fun h4 fl4 up4 => ?_
          have J4 : L2.Inv X pins σ' H' { s' with heap := h4 } := J.landed nb fl4.1 ((up.trans up3).trans up4) os ag
          obtain ⟨oe4, vs4, he4, hz4, hd4⟩ := fl4.there
          have S4 := Mir.Inv.suit (o := .ext (isExc a C d)) J4 hx J nI he4 hd4 na nL (isExc_ok he4 hz4 hd4)
          have hy' := hy a na
          rw [hi] at hy'
          refine wpAny_mono ((hsu a (X.pn ++ pins)).run [] _ _ _ _ S4 hy') (fun f s6 hsp => ?_) (fun _ _ z => False.elim z)
          cases f with
          | next =>
            obtain ⟨σ6, H6, S6, q6⟩ := hsp
            exact ⟨_, _, Inv.unsuit S6 ok, q6⟩
          | brk =>
            obtain ⟨σ6, H6, S6, q6⟩ := hsp
            exact ⟨_, _, Inv.unsuit S6 ok, q6⟩
          | cont =>
            obtain ⟨σ6, H6, S6, q6⟩ := hsp
            exact ⟨_, _, Inv.unsuit S6 ok, q6⟩
          | ret u =>
            obtain ⟨v6, σ6, H6, S6, r6, q6⟩ := hsp
            exact ⟨_, _, _, Inv.unsuit S6 ok, r6, q6⟩
        | false =>
          show wpAny _ X.A (handleBy (.ref a) X.env hds2) _ _ _
          exact ih (hno rfl)
      | @as x n i q b₀ suite np pos' hds2 l2 hc hi hn hln hsu r ih =>
        intro w
        obtain ⟨b, hb1, hyes, hno⟩ := w
        refine wpAny_handleBy_cons (codeAny_handlers_test ?_) (by intro q; cases q)
        have LM := PySem.W.exm_one (M := model X.prog X.w) (J3.kIn) LT hb1
        refine test0 hc (LM.here ?_)
        cases b with
        | true =>
          obtain ⟨C, rfl, hy⟩ := hyes rfl
          refine codeAny_handlers_suite_as ?_
          refine HandSPX.lands_againZ fl3 fun h4 fl4 up4 => ?_
          have J4 : L2.Inv X pins σ' H' { s' with heap := h4 } := J.landed nb fl4.1 ((up.trans up3).trans up4) os ag
          obtain ⟨oe4, vs4, he4, hz4, hd4⟩ := fl4.there
          have S4 := Mir.Inv.suit (o := .ext (isExc a C d)) J4 hx J nI he4 hd4 na nL (isExc_ok he4 hz4 hd4)
          have hloc : Loc X.env.scope n := .inl hln
          have hy' := hy a na
          rw [hi] at hy'
          refine store_ok (X := X.suite a (X.pn ++ pins)) (v := .ref a) S4 hN hn hloc rfl (fun s5 S5 => ?_) (.inr hln)
          refine wpAny_mono ((hsu a (X.pn ++ pins)).run [] s5 _ _ _ S5 hy') (fun f s6 hsp => ?_) (fun _ _ z => False.elim z)
          have end_ : ∀ {σ6 : L2.St} {H6 : Hp} {Q : Shared → Prop}, L2.Inv (X.suite a (X.pn ++ pins)) [] σ6 H6 s6 → (∀ s7, L2.Inv X pins (σ6.set i none) H6 s7 → Q s7) →
              wpAny (model X.prog X.w) X.A (do bindName X.env n .none; unbindBehindTheSuite X.env n pos') (fun _ s7 => Q s7) X.xe s6 := fun {σ6 H6 Q} S6 hq => gone_ok (Inv.unsuit S6 ok) hN hn hln hq
          cases f with
          | next =>
            obtain ⟨σ6, H6, S6, q6⟩ := hsp
            exact end_ S6 fun s7 J7 => ⟨_, _, J7, q6⟩
          | brk =>
            obtain ⟨σ6, H6, S6, q6⟩ := hsp
            exact end_ S6 fun s7 J7 => ⟨_, _, J7, q6⟩
          | cont =>
            obtain ⟨σ6, H6, S6, q6⟩ := hsp
            exact end_ S6 fun s7 J7 => ⟨_, _, J7, q6⟩
          | ret u =>
            obtain ⟨v6, σ6, H6, S6, r6, q6⟩ := hsp
            exact end_ S6 fun s7 J7 => ⟨_, _, _, J7, r6, q6⟩
        | false =>
          show wpAny _ X.A (handleBy (.ref a) X.env hds2) _ _ _
          exact ih (hno rfl)
    exact go hh w
  · cases f with
    | next =>
      obtain ⟨σ', H', J', q⟩ := hsp
      exact wpAny_execs_nil ⟨σ', H', J'.ofTry ok, q⟩
    | brk =>
      obtain ⟨σ', H', J', q⟩ := hsp
      exact ⟨σ', H', J'.ofTry ok, q⟩
    | cont =>
      obtain ⟨σ', H', J', q⟩ := hsp
      exact ⟨σ', H', J'.ofTry ok, q⟩
    | ret u =>
      obtain ⟨v, σ', H', J', r, q⟩ := hsp
      exact ⟨v, σ', H', J'.ofTry ok, r, q⟩
end
theorem MS.unset {G : GC} {J : L2.St → Prop} {H0 F0 F H : Hp} {fp : Nat → List Addr} {σ : L2.St} {r : Env} (m : MS G J H0 F0 fp F σ H r) (i : Nat) (hJ : ∀ σ v, J σ → J (σ.set i v)) : MS G J H0 F0 fp F (σ.set i none) H (r.set i .un) where
  jo := hJ _ _ m.jo
  s0 := m.s0
  t0 := m.t0
  f0 := m.f0
  sub := m.sub
  new := m.new
  len := by simpa using m.len
  sh := fun j e h => by
    rcases get_set_slot h with ⟨_, x, _⟩ | ⟨ne, h⟩
    · cases x
    · rw [List.getElem?_set_ne ne]
      exact m.sh j e h
  ow := fun j s e h => by
    rcases get_set_slot h with ⟨_, x, _⟩ | ⟨ne, h⟩
    · cases x
    · rw [List.getElem?_set_ne ne]
      exact m.ow j s e h
  ap := fun j k s t d e n h1 h2 => by
    rcases get_set_slot h1 with ⟨_, x, _⟩ | ⟨_, h1⟩
    · cases x
    · rcases get_set_slot h2 with ⟨_, x, _⟩ | ⟨_, h2⟩
      · cases x
      · exact m.ap j k s t d e n h1 h2
/-- an except clause over data: the class, the name's slot, the suite -/
structure ClD where
  u : Nat
  i : Option Nat
  g : Env → Oc
def bindI (d : D) (r : Env) : Option Nat → Env
  | none => r
  | some i => r.set i (.sh d)
def clrI (i : Option Nat) (r : Env) : Env := match i with
  | none => r
  | some i => r.set i .un
def closeI (i : Option Nat) : Oc → Oc
  | .nx r => .nx (clrI i r)
  | .bk r => .bk (clrI i r)
  | .ct r => .ct (clrI i r)
  | .rt d => .rt d
  | _ => .bad
def catchD (cs us : List Nat) (e : D) (r : Env) : List ClD → Oc
  | [] => .er e r
  | q :: l => match e with
    | .exc c vs => if cs.contains c = true ∧ us.contains q.u = true then (if overC c q.u = true then closeI q.i (q.g (bindI (.exc c vs) r q.i)) else catchD cs us e r l) else .bad
    | _ => .bad
def tryD (cs us : List Nat) (gb : Env → Oc) (l : List ClD) (r : Env) : Oc := match gb r with
  | .er e r' => catchD cs us e r' l
  | o => o
/-- errors of cs may come where classes of us are named -/
structure CtM (K : PySem.W.Frag) (ca : Nat → Addr) (cs us : List Nat) : Prop where
  h : ∀ c ∈ cs, ∀ u ∈ us, PySem.W.exmOne K (.ref (ca c)) (.ref (ca u)) = some (overC c u)
abbrev WF (J : L2.St → Prop) : Wi := ⟨fun _ _ _ _ => False, J⟩
abbrev toCl (G : GC) (J : L2.St → Prop) (k : Kd) (q : ClD) : Cl := ⟨.ref (G.ca q.u), q.i, tS G (WF J) k q.g⟩
theorem catch_ok {G : GC} {W : Wi} {k : Kd} {cs us : List Nat} {H0 F0 F H : Hp} {fp : Nat → List Addr} {σ : L2.St} {r : Env} {DE : Ends} {e : D} {cls : Value} {dd : Option Addr} (M : CtM G.K G.ca cs us) (m : MS G W.J H0 F0 fp F σ H r) (ex : ExcIs G F cls dd e) :
    ∀ (l : List ClD), (∀ q ∈ l, ∀ i, q.i = some i → ∀ σ v, W.J σ → W.J (σ.set i v)) → OutS G W k H0 F0 F DE (catchD cs us e r l) → wTry G.K W.w DE (l.map (toCl G W.J k)) cls dd σ H
  | [], _, o => o fp F σ H cls dd (Same.refl _) m ex
  | q :: l, hJ, o => by
    obtain ⟨c, ws, vs, rfl, rfl, ra, hx⟩ := ex
    rw [catchD] at o
    split at o
    · rename_i hc
      obtain ⟨h1, h2⟩ := hc
      have hm := M.h c (by simpa using h1) q.u (by simpa using h2)
      refine ⟨overC c q.u, hm, fun hb => ?_, fun hb => ?_⟩
      · rw [if_pos hb] at o
        refine ⟨_, rfl, fun a na => ?_⟩
        have gr : Grow F H (upd F a (.ext (isExc a (G.ca c) dd))) (upd H a (.ext (isExc a (G.ca c) dd))) := Grow.mk1 m.sub na
        have m1 := m.grow gr
        have rv : Rep G (upd F a (.ext (isExc a (G.ca c) dd))) (.ref a) (.exc c vs) := by
          rcases hx with ⟨rfl, z, rfl⟩ | ⟨dx, rfl, e2, hl⟩
          · cases ra
            exact .exc upd_same z
          · exact .excF upd_same (gr.f _ _ e2) hl (ra.mono gr.f)
        have o' : OutS G W k H0 F0 (upd F a (.ext (isExc a (G.ca c) dd))) DE (closeI q.i (q.g (bindI (.exc c vs) r q.i))) := OutS.same o gr.f
        have m2 : MS G W.J H0 F0 fp (upd F a (.ext (isExc a (G.ca c) dd))) (clSt σ a q.i) (upd H a (.ext (isExc a (G.ca c) dd))) (bindI (.exc c vs) r q.i) := by
          cases hi : q.i with
          | none => exact m1
          | some i => exact m1.setS i rv (hJ q List.mem_cons_self i hi)
        refine ⟨H0, F0, fp, _, _, m2, ?_⟩
        have clr : ∀ {fp2 F2 σ2 H2 r2}, MS G W.J H0 F0 fp2 F2 σ2 H2 r2 → ∀ i, q.i = some i → MS G W.J H0 F0 fp2 F2 (σ2.set i none) H2 (r2.set i .un) := fun m3 i hi => m3.unset i (hJ q List.mem_cons_self i hi)
        cases hg : q.g (bindI (.exc c vs) r q.i) with
        | nx r2 =>
          rw [hg] at o'
          intro fp2 F2 σ2 H2 s2 m3
          show (clEnds DE q.i).nx σ2 H2
          cases hi : q.i with
          | none => rw [hi] at o'; exact o' fp2 F2 σ2 H2 s2 m3
          | some i => rw [hi] at o'; exact o' fp2 F2 _ H2 s2 (clr m3 i hi)
        | bk r2 =>
          rw [hg] at o'
          intro fp2 F2 σ2 H2 s2 m3
          show (clEnds DE q.i).bk σ2 H2
          cases hi : q.i with
          | none => rw [hi] at o'; exact o' fp2 F2 σ2 H2 s2 m3
          | some i => rw [hi] at o'; exact o' fp2 F2 _ H2 s2 (clr m3 i hi)
        | ct r2 =>
          rw [hg] at o'
          intro fp2 F2 σ2 H2 s2 m3
          show (clEnds DE q.i).ct σ2 H2
          cases hi : q.i with
          | none => rw [hi] at o'; exact o' fp2 F2 σ2 H2 s2 m3
          | some i => rw [hi] at o'; exact o' fp2 F2 _ H2 s2 (clr m3 i hi)
        | rt d =>
          rw [hg] at o'
          intro F2 H2 v s2 g2 kv
          show (clEnds DE q.i).rt v H2
          cases hi : q.i with
          | none => rw [hi] at o'; exact o' F2 H2 v s2 g2 kv
          | some i => rw [hi] at o'; exact o' F2 H2 v s2 g2 kv
        | er x r2 => rw [hg] at o'; exact o'.elim
        | bad => rw [hg] at o'; exact o'.elim
      · rw [if_neg (by rw [hb]; exact Bool.false_ne_true)] at o
        exact catch_ok M m ⟨c, ws, vs, rfl, rfl, ra, hx⟩ l (fun q hq => hJ q (List.mem_cons_of_mem _ hq)) o
    · exact o.elim
inductive ClsD (X : Cx) (J : L2.St → Prop) (k : Kd) : List ExceptHandler → List ClD → Prop
  | nil : ClsD X J k [] []
  | one {x : Str} {q : ClD} {b₀ : Stmt} {suite : List Stmt} {np pos' : Pos} {hds : List ExceptHandler} {l : List ClD} (hc : Names X x (.ref ((gOf X).ca q.u))) (hi : q.i = none)
      (hsu : ∀ (a : Addr) (pn : List (Addr × Obj)), RSs (X.suite a pn) (WF J) k (b₀ :: suite) q.g) (r : ClsD X J k hds l) : ClsD X J k (.ExceptHandler (some (.Name x np)) none (b₀ :: suite) pos' :: hds) (q :: l)
  | as {x n : Str} {i : Nat} {q : ClD} {b₀ : Stmt} {suite : List Stmt} {np pos' : Pos} {hds : List ExceptHandler} {l : List ClD} (hc : Names X x (.ref ((gOf X).ca q.u))) (hi : q.i = some i) (hn : X.N[i]? = some n) (hln : X.env.kindOf n = some .local) (hJ : ∀ σ v, J σ → J (σ.set i v))
      (hsu : ∀ (a : Addr) (pn : List (Addr × Obj)), RSs (X.suite a pn) (WF J) k (b₀ :: suite) q.g) (r : ClsD X J k hds l) : ClsD X J k (.ExceptHandler (some (.Name x np)) (some n) (b₀ :: suite) pos' :: hds) (q :: l)
theorem ClsD.ok {X : Cx} {J : L2.St → Prop} {k : Kd} : ∀ {hds : List ExceptHandler} {l : List ClD}, ClsD X J k hds l → ClsOk X hds (l.map (toCl (gOf X) J k))
  | _, _, .nil => .nil
  | _, _, .one hc hi hsu r => .one (q := toCl (gOf X) J k _) hc hi hsu (ClsD.ok r)
  | _, _, .as hc hi hn hln _ hsu r => .as (q := toCl (gOf X) J k _) hc hi hn hln hsu (ClsD.ok r)
theorem ClsD.hJ {X : Cx} {J : L2.St → Prop} {k : Kd} : ∀ {hds : List ExceptHandler} {l : List ClD}, ClsD X J k hds l → ∀ q ∈ l, ∀ i, q.i = some i → ∀ σ v, J σ → J (σ.set i v)
  | _, _, .nil, _, h => nomatch h
  | _, _, .one _ hi _ r, q, h => (List.mem_cons.mp h).elim (fun e i z => by subst e; rw [hi] at z; cases z) fun h => ClsD.hJ r q h
  | _, _, .as _ hi _ _ hj _ r, q, h => (List.mem_cons.mp h).elim (fun e i z => by subst e; rw [hi] at z; cases z; exact hj) fun h => ClsD.hJ r q h
theorem rs_try {X : Cx} {W : Wi} {k : Kd} {cs us : List Nat} {body : List Stmt} {h₀ : ExceptHandler} {hds : List ExceptHandler} {l : List ClD} {pos : Pos} {gb : Env → Oc} (M : CtM X.K (gOf X).ca cs us) (hN : X.N.Nodup) (tk : Takes X W.w)
    (hb : ∀ (W' : WX) (pn : List (Addr × Obj)) (xe : Value → Shared → Prop), Takes (X.tr pn xe) W' → PassesOwn (model X.prog X.w) X.A X.env xe → RSs (X.tr pn xe) ⟨W', W.J⟩ k body gb)
    (hh : ClsD X W.J k (h₀ :: hds) l) (hs : X.stack = X.env :: X.outer := by rfl) (hf : X.env.frame = some X.env.locals := by rfl) (hx : X.ex = [] := by rfl) : RS X W k (.Try body (h₀ :: hds) [] [] pos) (tryD cs us gb l) :=
  (ps_try (tb := fun W' => tS (gOf X) ⟨W', W.J⟩ k gb) hs hf hx hN tk hb hh.ok).imp fun D σ H ⟨H0, F0, fp, F, r, m, o⟩ => ⟨H0, F0, fp, F, r, m, by
    unfold tryD at o
    cases e : gb r with
    | er x r' =>
      rw [e] at o
      exact fun fp' F' σ' H' cls dd s m' ex => catch_ok (W := W) M m' ex l hh.hJ (OutS.same (show OutS (gOf X) W k H0 F0 F D (catchD cs us x r' l) from o) s)
    | nx r' => rw [e] at o; exact o
    | bk r' => rw [e] at o; exact o
    | ct r' => rw [e] at o; exact o
    | rt d => rw [e] at o; exact o
    | bad => rw [e] at o; exact o⟩
theorem names_own {X : Cx} {u : Nat} {C : Addr} {x : Str} (hm : X.mg (cname u) = some (.ref C)) (hx : x = cname u := by rfl) (hg : Gl X x := by rfl) (hd : (x == ("__debug__" : Str)) = false := by decide) : Names X x (.ref ((gOf X).ca u)) := by
  subst hx
  exact ⟨hg, hd, .inl (by rw [ca_of (G := gOf X) hm]; exact hm)⟩
end Mir
namespace Mir
open PySem PySem.Spec PyProof.Rows L2
variable [Tn]
def enumL (ds : List D) : List D := ds.zipIdx.map fun p => .tup [.int (p.2 : Nat), p.1]
theorem enumL_get {ds : List D} {i : Nat} {d : D} (h : ds[i]? = some d) : (enumL ds)[i]? = some (.tup [.int (i : Nat), d]) := by
  unfold enumL
  rw [List.getElem?_map, List.getElem?_zipIdx, h]
  simp
theorem enumL_len (ds : List D) : (enumL ds).length = ds.length := by simp [enumL]
section
variable {X : Cx} {W : Wi} {e : Expr} {p pos tpos : Pos} {elts : List Expr} {kk : Nat}
theorem ints_rep {G : GC} {F : Hp} : ∀ ns : List Int, RepAll G F (ns.map V.int) (ns.map D.int)
  | [] => .nil
  | n :: ns => .cons (.int n) (ints_rep ns)
end
end Mir
namespace Mir
open PySem PySem.Spec PyProof.Rows L2
variable [Tn]
def nameG (i : Nat) (d : D) (r : Env) : Res Env := .ok (r.set i (.sh d))
def nilG : List D → Env → Res Env := fun ds r => match ds with
  | [] => .ok r
  | _ => .bad
def consG (g : D → Env → Res Env) (gs : List D → Env → Res Env) : List D → Env → Res Env := fun ds r => match ds with
  | d :: ds => g d r >>= fun r' => gs ds r'
  | [] => .bad
def tupG (n : Nat) (gs : List D → Env → Res Env) : D → Env → Res Env := fun d r => match d with
  | .tup ds => if ds.length = n then gs ds r else .bad
  | _ => .bad
@[simp] theorem nameG_eq (i : Nat) (d : D) (r : Env) : nameG i d r = .ok (r.set i (.sh d)) := rfl
@[simp] theorem nilG_nil (r : Env) : nilG [] r = .ok r := rfl
@[simp] theorem consG_cons (g : D → Env → Res Env) (gs : List D → Env → Res Env) (d : D) (ds : List D) (r : Env) : consG g gs (d :: ds) r = (g d r >>= fun r' => gs ds r') := rfl
@[simp] theorem tupG_tup (n : Nat) (gs : List D → Env → Res Env) (ds : List D) (r : Env) : tupG n gs (.tup ds) r = if ds.length = n then gs ds r else .bad := rfl
section
variable {X : Cx} {J : L2.St → Prop}
theorem gN (i : Nat) {x : Str} {pos : Pos} (hN : X.N.Nodup) (hJ : ∀ σ v, J σ → J (σ.set i v) := by first | exact fun _ _ h => h | exact jset (by decide) | exact jfn (by decide) | exact jb (by decide)) (hi : X.N[i]? = some x := by rfl) (hx : Loc X.env.scope x := by first | exact Or.inl rfl | exact Or.inr rfl) (hf : X.fn x = true ∨ X.env.scope.names.lookup x = some .local := by first | exact .inl rfl | exact .inr rfl) :
    RG X J (.Name x pos) (nameG i) := rg_name i hN hJ hi hx hf
theorem gs0 : RGs X J [] nilG := rgs_nil
theorem gsc {e : Expr} {es : List Expr} {g : D → Env → Res Env} {gs : List D → Env → Res Env} (h1 : RG X J e g) (h2 : RGs X J es gs) (hs : (assignEach (e :: es) X.env).map (·.2) = assign e X.env :: (assignEach es X.env).map (·.2) := by rfl) : RGs X J (e :: es) (consG g gs) := rgs_cons h1 h2 hs
theorem gT {es : List Expr} {kk : Nat} {pos : Pos} {gs : List D → Env → Res Env} (n : Nat) (hc : X.calm = true) (h : RGs X J es gs) (hn : (assignEach es X.env).length = n := by rfl) (hst : (assignEach es X.env).findIdx? (·.1) = none := by rfl) :
    RG X J (.Tuple es kk pos) (tupG n gs) := rg_tup hc h hn hst
end
/-- the attribute f's place in the classes cs -/
def plOf (cs : List Nat) (f : Str) (c : Nat) : Option Nat := if cs.contains c = true then (cflds c).idxOf? f else none
theorem plOf_some {cs : List Nat} {f : Str} {c i : Nat} (h : plOf cs f c = some i) : c ∈ cs ∧ (cflds c)[i]? = some f := by
  unfold plOf at h
  split at h
  · rename_i hc
    refine ⟨by simpa using hc, ?_⟩
    rw [List.idxOf?_eq_some_iff] at h
    obtain ⟨h1, h2, _⟩ := h
    rw [List.getElem?_eq_getElem h1]
    exact congrArg some h2
  · cases h
theorem cflds_nd (c : Nat) : (cflds c).Nodup := by
  unfold cflds
  split <;> decide +kernel
theorem fldM_of {K : PySem.W.Frag} {ca : Nat → Addr} {f : Str} {cs : List Nat} (h : ∀ c ∈ cs, Cls K (ca c) ∧ NoAttr K (ca c) f) : FldM K ca f (plOf cs f) :=
  ⟨fun c i e => let ⟨h1, h2⟩ := plOf_some e; ⟨h2, cflds_nd c, (h c h1).1, (h c h1).2⟩⟩
theorem fldX_of {K : PySem.W.Frag} {ca : Nat → Addr} {f : Str} {cs : List Nat} (h : ∀ c ∈ cs, XfC K (ca c) ∧ PySem.W.findIn K (.ref (ca c)) f = some none) : FldX K ca f (plOf cs f) :=
  ⟨fun c i e => let ⟨h1, h2⟩ := plOf_some e; ⟨h2, cflds_nd c, (h c h1).1, (h c h1).2⟩⟩
def objB (K : PySem.W.Frag) (C : Addr) : Bool := PySem.W.plainGet K C Str.empty && (PySem.W.hasDictIn K C && (PySem.W.plainOver K C && (decide (PySem.W.findIn K (.ref C) "__setattr__" = some (some (.builtin "object.__setattr__"))) && (decide (PySem.W.findIn K (.ref C) "__class__" = some (some (.builtin "object.__class__"))) &&
  (decide (PySem.W.specialIn K (.builtin "object.__class__") "__get__" = some (some (.builtin "getset_descriptor.__get__"))) && (decide (PySem.W.takesIn K (.builtin "object.__class__") = some true) && decide (PySem.W.mroIn K C (.type "object") = some true)))))))
theorem objB_ok {K : PySem.W.Frag} {C : Addr} (h : objB K C = true) : ObjC K C := by
  unfold objB at h
  simp only [Bool.and_eq_true, decide_eq_true_eq] at h
  obtain ⟨h1, h2, h3, h4, h5, h6, h7, h8⟩ := h
  exact ⟨⟨h1, h2, h3, h4⟩, h5, h6, h7, h8⟩
def excB (K : PySem.W.Frag) (C : Addr) : Bool := (PySem.W.clsIn K C).isSome && (decide (PySem.W.findIn K (.ref C) "__getattribute__" = some (some (.builtin "BaseException.__getattribute__"))) && (decide (PySem.W.findIn K (.ref C) "__getattr__" = some none) && (decide (PySem.W.subIn K (.ref C) (.type "BaseException") = some true) && (decide (PySem.W.findIn K (.ref C) "__class__" = some (some (.builtin "object.__class__"))) &&
  (decide (PySem.W.specialIn K (.builtin "object.__class__") "__get__" = some (some (.builtin "getset_descriptor.__get__"))) && (decide (PySem.W.takesIn K (.builtin "object.__class__") = some true) && decide (PySem.W.mroIn K C (.type "object") = some true)))))))
theorem excB_ok {K : PySem.W.Frag} {C : Addr} (h : excB K C = true) : ExcC K C := by
  unfold excB at h
  simp only [Bool.and_eq_true, decide_eq_true_eq] at h
  obtain ⟨h1, h2, h3, h4, h5, h6, h7, h8⟩ := h
  exact ⟨h1, h2, h3, h4, h5, h6, h7, h8⟩
def isTab1 (K : PySem.W.Frag) (us : List (Nat × Addr)) (p : Nat × Addr) : Bool := (us.all fun q => decide (PySem.W.kitOne K (.ref p.2) (.ref q.2) = some (overC p.1 q.1))) && ((bT.all fun u => decide (PySem.W.kitOne K (.ref p.2) (.type u) = some (isaT (.c p.1) (.t u)))) && (if p.1 < 10 then objB K p.2 else excB K p.2))
def isTab2 (K : PySem.W.Frag) (q : Nat × Addr) : Bool := bS.all fun b => decide (PySem.W.kitOne K (.type b) (.ref q.2) = some false)
def isTab (K : PySem.W.Frag) (l us : List (Nat × Addr)) : Bool := l.all (isTab1 K us) && us.all (isTab2 K)
theorem isM_of {K : PySem.W.Frag} {ca : Nat → Addr} {l us : List (Nat × Addr)} (hl : ∀ p ∈ l, ca p.1 = p.2) (hu : ∀ p ∈ us, ca p.1 = p.2) (h : isTab K l us = true) : IsM K ca (l.map (·.1)) (us.map (·.1)) := by
  unfold isTab at h
  simp only [Bool.and_eq_true, List.all_eq_true] at h
  obtain ⟨h1, h2⟩ := h
  have one : ∀ p ∈ l, (∀ q ∈ us, PySem.W.kitOne K (.ref p.2) (.ref q.2) = some (overC p.1 q.1)) ∧ (∀ u ∈ bT, PySem.W.kitOne K (.ref p.2) (.type u) = some (isaT (.c p.1) (.t u))) ∧ (if p.1 < 10 then objB K p.2 else excB K p.2) = true := fun p hp => by
    have z := h1 p hp
    unfold isTab1 at z
    simp only [Bool.and_eq_true, List.all_eq_true, decide_eq_true_eq] at z
    exact z
  have two : ∀ q ∈ us, ∀ b ∈ bS, PySem.W.kitOne K (.type b) (.ref q.2) = some false := fun q hq b hb => by
    have z := h2 q hq
    unfold isTab2 at z
    simp only [List.all_eq_true, decide_eq_true_eq] at z
    exact z b hb
  refine ⟨fun c hc u hu' => ?_, fun c hc u hu' => ?_, fun b hb u hu' => ?_, fun c hc h10 => ?_, fun c hc h10 => ?_⟩
  · obtain ⟨p, hp, rfl⟩ := List.mem_map.mp hc
    obtain ⟨q, hq, rfl⟩ := List.mem_map.mp hu'
    rw [hl p hp, hu q hq]
    exact (one p hp).1 q hq
  · obtain ⟨p, hp, rfl⟩ := List.mem_map.mp hc
    rw [hl p hp]
    exact (one p hp).2.1 u hu'
  · obtain ⟨q, hq, rfl⟩ := List.mem_map.mp hu'
    rw [hu q hq]
    exact two q hq b hb
  · obtain ⟨p, hp, rfl⟩ := List.mem_map.mp hc
    rw [hl p hp]
    have z := (one p hp).2.2
    rw [if_pos h10] at z
    exact objB_ok z
  · obtain ⟨p, hp, rfl⟩ := List.mem_map.mp hc
    rw [hl p hp]
    have z := (one p hp).2.2
    rw [if_neg (by omega)] at z
    exact excB_ok z
def ctB (K : PySem.W.Frag) (l us : List (Nat × Addr)) : Bool := l.all fun p => us.all fun q => decide (PySem.W.exmOne K (.ref p.2) (.ref q.2) = some (overC p.1 q.1))
theorem ctM_of {K : PySem.W.Frag} {ca : Nat → Addr} {l us : List (Nat × Addr)} (hl : ∀ p ∈ l, ca p.1 = p.2) (hu : ∀ p ∈ us, ca p.1 = p.2) (h : ctB K l us = true) : CtM K ca (l.map (·.1)) (us.map (·.1)) := by
  unfold ctB at h
  simp only [List.all_eq_true, decide_eq_true_eq] at h
  refine ⟨fun c hc u hu' => ?_⟩
  obtain ⟨p, hp, rfl⟩ := List.mem_map.mp hc
  obtain ⟨q, hq, rfl⟩ := List.mem_map.mp hu'
  rw [hl p hp, hu q hq]
  exact h p hp q hq
/-- an attribute of objects -/
def flB (K : PySem.W.Frag) (f : Str) (l : List (Nat × Addr)) : Bool := l.all fun p => objB K p.2 && decide (PySem.W.findIn K (.ref p.2) f = some none)
theorem fldM_by {K : PySem.W.Frag} {ca : Nat → Addr} {f : Str} {l : List (Nat × Addr)} (hl : ∀ p ∈ l, ca p.1 = p.2) (h : flB K f l = true) : FldM K ca f (plOf (l.map (·.1)) f) := fldM_of fun c hc => by
  obtain ⟨p, hp, rfl⟩ := List.mem_map.mp hc
  rw [hl p hp]
  unfold flB at h
  simp only [List.all_eq_true, Bool.and_eq_true, decide_eq_true_eq] at h
  exact ⟨(objB_ok (h p hp).1).cl, (h p hp).2⟩
theorem clM_by {K : PySem.W.Frag} {ca : Nat → Addr} {f : Str} {l : List (Nat × Addr)} {c : Nat} (hl : ∀ p ∈ l, ca p.1 = p.2) (h : flB K f l = true) (hc : c ∈ l.map (·.1)) : ClM K ca f c := by
  obtain ⟨p, hp, rfl⟩ := List.mem_map.mp hc
  unfold flB at h
  simp only [List.all_eq_true, Bool.and_eq_true, decide_eq_true_eq] at h
  have z := h p hp
  refine ⟨?_, ?_, cflds_nd _⟩
  · rw [hl p hp]; exact (objB_ok z.1).cl
  · rw [hl p hp]; exact z.2
def xlB (K : PySem.W.Frag) (f : Str) (l : List (Nat × Addr)) : Bool := l.all fun p => xfB K p.2 && decide (PySem.W.findIn K (.ref p.2) f = some none)
theorem fldX_by {K : PySem.W.Frag} {ca : Nat → Addr} {f : Str} {l : List (Nat × Addr)} (hl : ∀ p ∈ l, ca p.1 = p.2) (h : xlB K f l = true) : FldX K ca f (plOf (l.map (·.1)) f) := fldX_of fun c hc => by
  obtain ⟨p, hp, rfl⟩ := List.mem_map.mp hc
  rw [hl p hp]
  unfold xlB at h
  simp only [List.all_eq_true, Bool.and_eq_true, decide_eq_true_eq] at h
  exact ⟨xfB_ok (h p hp).1, (h p hp).2⟩
/-- an error class without an __init__ of its own -/
def e0B (K : PySem.W.Frag) (C : Addr) : Bool := PySem.W.excIn K C veT "ValueError.__new__" && (PySem.W.keepIn K (.ref C) && (decide (PySem.W.subIn K (.ref C) (.type "BaseException") = some true) && decide (PySem.W.typeIn K (.ref C) = some (.type "type"))))
theorem exM0_by {K : PySem.W.Frag} {mg : Str → Option Value} {C : Addr} {c : Nat} (hm : mg (cname c) = some (.ref C)) (h : e0B K C = true) (no : cflds c = [] := by rfl) : ExM0 K mg C c := by
  unfold e0B at h
  simp only [Bool.and_eq_true, decide_eq_true_eq] at h
  obtain ⟨h1, h2, h3, h4⟩ := h
  exact ⟨hm, h1, h2, h3, h4, no⟩
/-- .. with one -/
def oexB (K : PySem.W.Frag) (C : Addr) : Bool := decide (PySem.W.findIn K (.ref C) "__setattr__" = some (some (.builtin "object.__setattr__"))) && (decide (PySem.W.subIn K (.ref C) (.type "BaseException") = some true) && (decide (PySem.W.typeIn K (.ref C) = some (.type "type")) && PySem.W.keepIn K (.ref C)))
theorem oexC_by {K : PySem.W.Frag} {C : Addr} {nm q : Str} {N : Addr} {bs bm : List Value} {sn : List Str} {sub : List Value} {ab : Bool} {col : Option Bool} {dd : Option Addr} {k0 k1 k2 k3 k5 : Option Value}
    (hC : K.lookup C = some (excClassObj nm q C N bs bm true sn sub ab col dd k0 k1 k2 k3 k5 "ValueError.__new__")) (hb : PySem.HandSPX.refsVE bm = true) (h : oexB K C = true) : OexC K C := by
  unfold oexB at h
  simp only [Bool.and_eq_true, decide_eq_true_eq] at h
  obtain ⟨h1, h2, h3, h4⟩ := h
  exact ⟨⟨nm, q, N, bs, bm, sn, sub, ab, col, dd, k0, k1, k2, k3, k5, hC, hb⟩, h1, h2, h3, h4⟩
theorem cg_by {P : Program} {w : World} {K : PySem.W.Frag} {mg : Str → Option Value} {c : Nat} {C : Addr} (h : mg (cname c) = some (.ref C)) : mg (cname c) = some (.ref ((⟨P, w, K, mg⟩ : GC).ca c)) := by
  rw [ca_of (G := ⟨P, w, K, mg⟩) h]
  exact h
theorem nT_same (H : Hp) : Same (nT H) H := fun _ _ e => (nT_of e).1
theorem tt_start {H : Hp} {cs : List (Addr × Addr)} (hl : Tn.l = cs.map (·.2)) (hH : ∀ p ∈ cs, H p.2 = some (.tbl #[])) : Tt (nT H) H := fun P hP => by
  rw [hl] at hP
  obtain ⟨p, hp, rfl⟩ := List.mem_map.mp hP
  refine ⟨?_, #[], hH p hp, True.intro, fun pos cv e => ?_⟩
  · unfold nT
    rw [hH p hp]
  · have z : codeAmong pos [] = some cv := e
    simp [codeAmong] at z
/-- the tables: the def's name, where it stands, its code object, its table -/
abbrev TbE := Str × Addr × Addr × Addr
def tabKB (K : PySem.W.Frag) (t : TbE) : Bool := (match K.lookup t.2.1 with
  | some ⟨_, _, .func fd, _⟩ => (match fd.code with | .ref c => decide (c = t.2.2.1) | _ => false)
  | _ => false) && (PySem.W.codeHdIn K t.2.2.1 t.2.2.2 && ((match K.lookup t.2.2.1 with
  | some ⟨_, _, .fields vs, _⟩ => (match (vs[11]? : Option Value) with | some (.ref P) => decide (P = t.2.2.2) | _ => false)
  | _ => false) && (K.lookup t.2.2.2).isNone))
theorem tabKB_some {K : PySem.W.Frag} {t : TbE} (h : tabKB K t = true) : (∃ (o : Obj) (fd : FuncData), K.lookup t.2.1 = some o ∧ o.data = .func fd ∧ fd.code = .ref t.2.2.1) ∧ PySem.W.codeHdIn K t.2.2.1 t.2.2.2 = true ∧
    (∃ (e : Value) (dd : Option Addr) (vs : Array Value) (sl : Array (Option Value)), K.lookup t.2.2.1 = some ⟨e, dd, .fields vs, sl⟩ ∧ vs[11]? = some (.ref t.2.2.2)) ∧ K.lookup t.2.2.2 = none := by
  unfold tabKB at h
  simp only [Bool.and_eq_true] at h
  obtain ⟨h1, h2, h3, h4⟩ := h
  refine ⟨?_, h2, ?_, by simpa using h4⟩
  · split at h1
    · rename_i fd _ e
      split at h1
      · rename_i c ec
        have := of_decide_eq_true h1
        subst this
        exact ⟨_, fd, e, rfl, ec⟩
      · cases h1
    · cases h1
  · split at h3
    · rename_i vs _ e
      split at h3
      · rename_i c ec
        have := of_decide_eq_true h3
        rw [this] at ec
        exact ⟨_, _, vs, _, e, ec⟩
      · cases h3
    · cases h3
/-- the law's promise, and the tables that it leans on -/
def LawT (P : Program) (w : World) (K : PySem.W.Frag) (q : Program) (k : Nat) (x : Str) (mg : Str → Option Value) (fa : Addr) (g : List D → Res D) : Prop :=
  ∃ (tn : Tn) (fd : FuncData) (ts : List TbE), tn.l = ts.map (·.2.2.2) ∧ (∀ t ∈ ts, ((recsOf q).any fun e => e.name == t.1) = true ∧ mg t.1 = some (.ref t.2.1) ∧ tabKB K t = true) ∧ (∀ (s : Shared) (u : Value), BindsTo s fd ⟨[u], []⟩ [(x, u)]) ∧
    ∀ base : Heap, K.In base → base.Ns mainGlobals mg → (∀ t ∈ ts, LamX.TabB base mg t.2.2.1 t.2.2.2) → FnOk P w K mg base (L2.CX P w) k fa fd [x] (@spM tn ⟨P, w, K, mg⟩ .S g)
theorem walk_mir {l : PySem.W.OpenLaw} {k : Nat} {q : Program} {loose : List Str} {XP : (Str → Option Value) → Heap → Prop} {YP : World → Heap → Prop} {d : DefRec} {K : Params → PySem.W.Frag} {x : Str} {g : List D → Res D}
    (hn : l.most = some 63) (hdf : d.params.defaults = []) (hr : Room k callerA) (hY : ∀ (w : World) (h : Heap), YP w h → (K w.params).In h) (hg : ∀ ns : List Int, ns.length ≤ 63 → g [.scr ns] = .ok (.bl true))
    (F : ∀ (w : World) (mg : Str → Option Value) (fa : Addr) (h : Heap), (K w.params).In h → h.Ns mainGlobals mg → mg d.name = some (.ref fa) → LawT l.prog w (K w.params) q k x mg fa g) :
    PySem.W.WalkO q loose XP YP l.row.toRowW d [] (fun f vs => PySem.call f vs) := by
  refine Att.attach_callB hn hdf fun w s₀ s₁ mg mb fa o pm cd doc a vs ns G Y ho hd hcd hmg hobj hints hlen hbits hg' => ?_
  have KX := hY w _ Y
  obtain ⟨tn, fd, ts, hl, ht, hb, hF⟩ := F w mg fa _ KX G.T.g hmg
  have emp : ∀ t ∈ ts, s₁.heap.get? t.2.2.2 = some { cls := .none, data := .fields #[] } := fun t htm => by
    obtain ⟨hrec, hmt, hk⟩ := ht t htm
    obtain ⟨⟨o1, fd1, k1, k2, k3⟩, _, ⟨e, dd, vs1, sl, k4, k5⟩, _⟩ := tabKB_some hk
    obtain ⟨dL, hm, hn1⟩ := List.any_eq_true.mp hrec
    have hn2 : dL.name = t.1 := beq_iff_eq.mp hn1
    obtain ⟨a', o', fd', c', P', h1, h2, h3, h4, h5, h6⟩ := G.T.tab dL hm
    rw [hn2, hmt] at h1
    cases h1
    have g1 := KX _ _ k1
    rw [g1] at h2
    cases h2
    rw [k2] at h3
    cases h3
    rw [k3] at h4
    cases h4
    obtain ⟨⟨oc, vc, e1, _, e3, e4⟩, hP⟩ := h6
    have g2 := KX _ _ k4
    rw [g2] at e1
    cases e1
    cases e3
    rw [k5] at e4
    cases e4
    exact hP
  refine LamX.law_callTs (cs := ts.map (·.2.2)) KX G.T.g G.T.b G.T.builtins G.T.nolimit hg' (fun p hp => ?_) (fun p hp => ?_) (fun p hp => ?_) G.T.bmain hobj hints (Nat.le_trans hlen (by rw [sizeLine_eq]; decide)) hr (fun base h1 h2 h3 => hF base h1 h2 fun t htm => h3 t.2.2 (List.mem_map.mpr ⟨t, htm, rfl⟩)) hb (fun H hH hS => ?_) fun H e s' c => ?_
  · obtain ⟨t, htm, rfl⟩ := List.mem_map.mp hp
    exact emp t htm
  · obtain ⟨t, htm, rfl⟩ := List.mem_map.mp hp
    exact (tabKB_some (ht t htm).2.2).2.2.2
  · obtain ⟨t, htm, rfl⟩ := List.mem_map.mp hp
    exact PySem.W.codeHd_of_K KX (tabKB_some (ht t htm).2.2).2.1
  · refine ⟨nT H, [.scr ns], nT_same H, tt_start (cs := ts.map (·.2.2)) (by rw [hl, List.map_map]; rfl) hH, .cons (.scr (sqL_nT hS)) .nil, ?_⟩
    rw [hg ns hlen]
    intro F' H' _ v kv
    cases (show Rep _ F' v (.bl true) from kv)
    rfl
  · obtain ⟨a, B, H', cls, d, rfl, fl, hok, ub, na, os, ag, hE⟩ := c
    exact hE
end Mir
namespace Mir
open PySem PySem.Spec PyProof.Rows L2
variable [Tn]
@[simp] def tupD (ds : List D) : Res D := if ds.length ≤ lim then .ok (.tup ds) else .bad
def raiseD (c : Nat) (ds : List D) (r : Env) : Oc := if ds.length = (cflds c).length ∧ ds.length ≤ 1000 then .er (.exc c ds.reverse) r else .bad
theorem boot_ty_int : bootBuiltins "int" = some (.type "int") := by decide +kernel
theorem boot_ty_bool : bootBuiltins "bool" = some (.type "bool") := by decide +kernel
theorem boot_ty_tuple : bootBuiltins "tuple" = some (.type "tuple") := by decide +kernel
theorem boot_ty_list : bootBuiltins "list" = some (.type "list") := by decide +kernel
theorem boot_ty_ValueError : bootBuiltins "ValueError" = some (.type "ValueError") := by decide +kernel
/-- a name's own value is shared behind a statement -/
def shareAt (i : Nat) : Oc → Oc
  | .nx r => .nx (freeze i r)
  | o => o
theorem rs_shareLc {X : Cx} {W : Wi} {k : Kd} (i : Nat) {s : Stmt} {g : Env → Oc} (h : RS X W k s g) : RS X W k s (fun r => shareAt i (g r)) :=
  h.imp fun D σ H ⟨H0, F0, fp, F, r, m, o⟩ => ⟨H0, F0, fp, F, r, m, by
    have o : OutS (gOf X) W k H0 F0 F D (shareAt i (g r)) := o
    show OutS (gOf X) W k H0 F0 F D (g r)
    cases e : g r with
    | nx r' =>
      rw [e] at o
      intro fp' F' σ' H' s' m'
      obtain ⟨F2, s2, m2⟩ := m'.freeze i
      exact o fp' F2 σ' H' (s'.trans s2) m2
    | rt d => rw [e] at o; exact o
    | bk r' => rw [e] at o; exact o
    | ct r' => rw [e] at o; exact o
    | er x r' => rw [e] at o; exact o
    | bad => rw [e] at o; exact o⟩
theorem re_gI {X : Cx} {W : Wi} {x : Str} {pos : Pos} {i : Int} (hm : ∃ t, X.mg x = some (.int i t)) (hg : Gl X x := by rfl) (hd : (x == ("__debug__" : Str)) = false := by decide) : RE X W .S (.Name x pos) (fun _ => .ok (.int i)) :=
  let ⟨_, h⟩ := hm
  re_gInt h hg hd
theorem re_gS {X : Cx} {W : Wi} {x : Str} {pos : Pos} {i : Str} (hm : ∃ t, X.mg x = some (.str i t)) (hg : Gl X x := by rfl) (hd : (x == ("__debug__" : Str)) = false := by decide) : RE X W .S (.Name x pos) (fun _ => .ok (.str i)) :=
  let ⟨_, h⟩ := hm
  re_gStr h hg hd
end Mir
namespace Mir
open PySem PySem.Spec PyProof.Rows L2
variable [Tn]
def okQ : Nat → D → Bool
  | _, .non => true
  | _, .bl _ => true
  | _, .int _ => true
  | _, .str s => PyData.strOk s
  | n + 1, .tup xs => xs.all (okQ n)
  | n + 1, .lst xs => xs.all (okQ n)
  | _, _ => false
mutual
def eqQ : D → D → Bool
  | .non, .non => true
  | .bl a, .bl b => a == b
  | .bl a, .int j => (if a = true then 1 else 0) == j
  | .int i, .bl b => i == (if b = true then 1 else 0)
  | .int i, .int j => i == j
  | .str x, .str y => x == y
  | .lst xs, .lst ys => eqQs xs ys
  | .tup xs, .tup ys => eqQs xs ys
  | _, _ => false
def eqQs : List D → List D → Bool
  | [], [] => true
  | x :: xs, y :: ys => eqQ x y && eqQs xs ys
  | _, _ => false
end
theorem toPy_ok : ∀ (n : Nat) (d : D), okQ n d = true → ∃ p, toPy d = some p ∧ p.canLay0 = true ∧ p.depth ≤ n := by
  have all : ∀ (n : Nat), (∀ d, okQ n d = true → ∃ p, toPy d = some p ∧ p.canLay0 = true ∧ p.depth ≤ n) → ∀ xs : List D, xs.all (okQ n) = true → ∃ ps, toPy.toPys xs = some ps ∧ PyData.canLayAll0 ps = true ∧ PyData.depthAll ps ≤ n := fun n h xs => by
    induction xs with
    | nil => exact fun _ => ⟨[], by rw [toPy.toPys], by rw [PyData.canLayAll0], by rw [PyData.depthAll]; omega⟩
    | cons x xs ih =>
      intro hx
      rw [List.all_cons, Bool.and_eq_true] at hx
      obtain ⟨p, h1, h2, h3⟩ := h x hx.1
      obtain ⟨ps, h4, h5, h6⟩ := ih hx.2
      exact ⟨p :: ps, by rw [toPy.toPys, h1, h4], by rw [PyData.canLayAll0, h2, h5]; rfl, by rw [PyData.depthAll]; omega⟩
  intro n
  induction n with
  | zero =>
    intro d h
    cases d with
    | non => exact ⟨.none, by rw [toPy], by rw [PyData.canLay0], by rw [PyData.depth]; omega⟩
    | bl b => exact ⟨.bool b, by rw [toPy], by rw [PyData.canLay0], by rw [PyData.depth]; omega⟩
    | int i => exact ⟨.int i, by rw [toPy], by rw [PyData.canLay0], by rw [PyData.depth]; omega⟩
    | str s => exact ⟨.str s, by rw [toPy], by rw [PyData.canLay0]; simpa [okQ] using h, by rw [PyData.depth]; omega⟩
    | _ => simp [okQ] at h
  | succ n ih =>
    intro d h
    cases d with
    | non => exact ⟨.none, by rw [toPy], by rw [PyData.canLay0], by rw [PyData.depth]; omega⟩
    | bl b => exact ⟨.bool b, by rw [toPy], by rw [PyData.canLay0], by rw [PyData.depth]; omega⟩
    | int i => exact ⟨.int i, by rw [toPy], by rw [PyData.canLay0], by rw [PyData.depth]; omega⟩
    | str s => exact ⟨.str s, by rw [toPy], by rw [PyData.canLay0]; simpa [okQ] using h, by rw [PyData.depth]; omega⟩
    | tup xs =>
      obtain ⟨ps, h1, h2, h3⟩ := all n ih xs (by simpa [okQ] using h)
      exact ⟨.tuple ps, by rw [toPy, h1]; rfl, by rw [PyData.canLay0, h2], by rw [PyData.depth]; omega⟩
    | lst xs =>
      obtain ⟨ps, h1, h2, h3⟩ := all n ih xs (by simpa [okQ] using h)
      exact ⟨.list ps, by rw [toPy, h1]; rfl, by rw [PyData.canLay0, h2], by rw [PyData.depth]; omega⟩
    | _ => simp [okQ] at h
theorem eqv_eqQ : ∀ (n : Nat) (a b : D) (p q : PyData), okQ n a = true → toPy a = some p → toPy b = some q → PyData.eqv p q = eqQ a b := by
  have all : ∀ (n : Nat), (∀ (a b : D) (p q : PyData), okQ n a = true → toPy a = some p → toPy b = some q → PyData.eqv p q = eqQ a b) → ∀ (xs ys : List D) (ps qs : List PyData), xs.all (okQ n) = true → toPy.toPys xs = some ps → toPy.toPys ys = some qs → PyData.eqvAll ps qs = eqQs xs ys := fun n h xs => by
    induction xs with
    | nil =>
      intro ys ps qs _ h1 h2
      rw [toPy.toPys] at h1
      cases h1
      cases ys with
      | nil => rw [toPy.toPys] at h2; cases h2; simp [PyData.eqvAll, eqQs]
      | cons y ys =>
        rw [toPy.toPys] at h2
        split at h2
        · cases h2; simp [PyData.eqvAll, eqQs]
        · cases h2
    | cons x xs ih =>
      intro ys ps qs h0 h1 h2
      rw [List.all_cons, Bool.and_eq_true] at h0
      rw [toPy.toPys] at h1
      split at h1
      · rename_i p ps' e1 e2
        cases h1
        cases ys with
        | nil => rw [toPy.toPys] at h2; cases h2; simp [PyData.eqvAll, eqQs]
        | cons y ys =>
          rw [toPy.toPys] at h2
          split at h2
          · rename_i q qs' e3 e4
            cases h2
            rw [PyData.eqvAll, eqQs, h x y p q h0.1 e1 e3, ih ys ps' qs' h0.2 e2 e4]
          · cases h2
      · cases h1
  intro n
  induction n with
  | zero =>
    intro a b p q h0 h1 h2
    cases a <;> first | (simp [okQ] at h0; done) | skip
    all_goals (simp only [toPy, Option.some.injEq] at h1; subst h1)
    all_goals cases b
    all_goals first
      | (simp only [toPy, Option.some.injEq] at h2; subst h2; simp [PyData.eqv, eqQ]; done)
      | (simp only [toPy, Option.map_eq_some_iff] at h2; obtain ⟨qs, _, h2⟩ := h2; subst h2; simp [PyData.eqv, eqQ]; done)
      | (simp [toPy] at h2; done)
  | succ n ih =>
    intro a b p q h0 h1 h2
    cases a <;> first | (simp [okQ] at h0; done) | skip
    all_goals first
      | (simp only [toPy, Option.some.injEq] at h1; subst h1)
      | (simp only [toPy, Option.map_eq_some_iff] at h1; obtain ⟨ps, e1, h1⟩ := h1; subst h1)
    all_goals cases b
    all_goals first
      | (simp only [toPy, Option.some.injEq] at h2; subst h2; simp [PyData.eqv, eqQ]; done)
      | (simp only [toPy, Option.map_eq_some_iff] at h2; obtain ⟨qs, e2, h2⟩ := h2; subst h2; first | (simp [PyData.eqv, eqQ]; done) | (rw [PyData.eqv, eqQ]; exact all n ih _ _ _ _ (by simpa [okQ] using h0) e1 e2))
      | (simp [toPy] at h2; done)
theorem eqS_ok {a b : D} (ha : okQ 64 a = true) (hb : okQ 64 b = true) : eqS a b = .ok (.bl (eqQ a b)) := by
  obtain ⟨p, h1, h2, h3⟩ := toPy_ok 64 a ha
  obtain ⟨q, h4, h5, h6⟩ := toPy_ok 64 b hb
  unfold eqS
  rw [h1, h4]
  have s1 : SeqAt.shaped p = true := by unfold SeqAt.shaped; rw [h2]; simpa using h3
  have s2 : SeqAt.shaped q = true := by unfold SeqAt.shaped; rw [h5]; simpa using h6
  simp only [s1, s2, and_self, if_true, eqv_eqQ 64 a b p q ha h1 h4]
theorem neS_ok {a b : D} (ha : okQ 64 a = true) (hb : okQ 64 b = true) : neS a b = .ok (.bl (!eqQ a b)) := by
  obtain ⟨p, h1, h2, h3⟩ := toPy_ok 64 a ha
  obtain ⟨q, h4, h5, h6⟩ := toPy_ok 64 b hb
  unfold neS
  rw [h1, h4]
  have s1 : SeqAt.shaped p = true := by unfold SeqAt.shaped; rw [h2]; simpa using h3
  have s2 : SeqAt.shaped q = true := by unfold SeqAt.shaped; rw [h5]; simpa using h6
  simp only [s1, s2, and_self, if_true, eqv_eqQ 64 a b p q ha h1 h4]
theorem eqQ_refl : ∀ (n : Nat) (a : D), okQ n a = true → eqQ a a = true := by
  have all : ∀ n, (∀ a, okQ n a = true → eqQ a a = true) → ∀ xs : List D, xs.all (okQ n) = true → eqQs xs xs = true := fun n h xs => by
    induction xs with
    | nil => intro _; rw [eqQs]
    | cons x xs ih =>
      intro h0
      rw [List.all_cons, Bool.and_eq_true] at h0
      rw [eqQs, h x h0.1, ih h0.2]
      rfl
  intro n
  induction n with
  | zero =>
    intro a h
    cases a <;> first | (simp [okQ] at h; done) | simp [eqQ]
  | succ n ih =>
    intro a h
    cases a <;> first | (simp [okQ] at h; done) | (simp [eqQ]; done) | (rw [eqQ]; exact all n ih _ (by simpa [okQ] using h))
/-- a tuple, a list of whole numbers -/
abbrev tuI (xs : List Int) : D := .tup (xs.map .int)
abbrev liI (xs : List Int) : D := .lst (xs.map .int)
theorem okQ_ints (n : Nat) (xs : List Int) : (xs.map D.int).all (okQ n) = true := by
  rw [List.all_eq_true]
  intro x hx
  obtain ⟨i, _, rfl⟩ := List.mem_map.mp hx
  cases n <;> rfl
@[simp] theorem okQ_int (n : Nat) (i : Int) : okQ n (.int i) = true := by cases n <;> rfl
@[simp] theorem okQ_bl (n : Nat) (i : Bool) : okQ n (.bl i) = true := by cases n <;> rfl
@[simp] theorem okQ_non (n : Nat) : okQ n .non = true := by cases n <;> rfl
@[simp] theorem okQ_str (n : Nat) (s : Str) : okQ n (.str s) = PyData.strOk s := by cases n <;> rfl
@[simp] theorem okQ_tI (n : Nat) (xs : List Int) : okQ (n + 1) (tuI xs) = true := okQ_ints n xs
theorem eqQs_ints : ∀ xs ys : List Int, eqQs (xs.map D.int) (ys.map D.int) = decide (xs = ys)
  | [], [] => by simp [eqQs]
  | [], _ :: _ => by simp [eqQs]
  | _ :: _, [] => by simp [eqQs]
  | x :: xs, y :: ys => by
    rw [List.map_cons, List.map_cons, eqQs, eqQs_ints xs ys, eqQ]
    by_cases h : x = y <;> by_cases h2 : xs = ys <;> simp [h, h2]
@[simp] theorem eqS_int (i j : Int) : eqS (.int i) (.int j) = .ok (.bl (decide (i = j))) := by
  rw [eqS_ok (by simp) (by simp), eqQ]
  by_cases h : i = j <;> simp [h]
@[simp] theorem neS_int (i j : Int) : neS (.int i) (.int j) = .ok (.bl (!decide (i = j))) := by
  rw [neS_ok (by simp) (by simp), eqQ]
  by_cases h : i = j <;> simp [h]
@[simp] theorem addD_int (i j : Int) : addD (.int i) (.int j) = .ok (.int (i + j)) := rfl
@[simp] theorem subD_int (i j : Int) : subD (.int i) (.int j) = .ok (.int (i - j)) := rfl
theorem modD_ok {i j : Int} (h : 0 < j) : modD (.int i) (.int j) = .ok (.int (i % j)) := if_pos h
theorem bits_le {i : Int} (h : i.natAbs < 2 ^ 250) : bits i < 250 := by
  unfold bits
  by_cases h0 : i.natAbs = 0
  · rw [h0]; decide
  · exact (Nat.log2_lt h0).mpr h
theorem mulD_ok {i j : Int} (h1 : bits i < 250) (h2 : bits j < 250) : mulD (.int i) (.int j) = .ok (.int (i * j)) := by
  show (if bits i + bits j < 1000000 ∨ CMul i j then _ else _) = _
  rw [if_pos (.inl (by omega))]
theorem mulD_small {i j : Int} (h : CMul i j) : mulD (.int i) (.int j) = .ok (.int (i * j)) := by
  show (if bits i + bits j < 1000000 ∨ CMul i j then _ else _) = _
  rw [if_pos (.inr h)]
theorem divD_ok {i j : Int} (h : 0 < j) (h2 : bits j < 250) : divD (.int i) (.int j) = .ok (.int (i / j)) := if_pos ⟨h, by omega⟩
@[simp] theorem gtD_int (i j : Int) : gtD (.int i) (.int j) = .ok (.bl (decide (j < i))) := rfl
@[simp] theorem ltD_int (i j : Int) : ltD (.int i) (.int j) = .ok (.bl (decide (i < j))) := rfl
@[simp] theorem leD_int (i j : Int) : leD (.int i) (.int j) = .ok (.bl (decide (i ≤ j))) := rfl
@[simp] theorem geD_int (i j : Int) : geD (.int i) (.int j) = .ok (.bl (decide (j ≤ i))) := rfl
@[simp] theorem asB_bl (b : Bool) : asB (.bl b) = .ok b := rfl
@[simp] theorem getS0 (d : D) (r : Env) : getS 0 (.sh d :: r) = .ok d := rfl
@[simp] theorem getR0 (d : D) (r : Env) : getR 0 (.sh d :: r) = .ok d := rfl
@[simp] theorem getR0o (d : D) (r : Env) : getR 0 (.ow .flat d :: r) = .ok d := rfl
@[simp] theorem getS_succ (i : Nat) (x : Slot) (r : Env) : getS (i + 1) (x :: r) = getS i r := by simp [getS]
@[simp] theorem getR_succ (i : Nat) (x : Slot) (r : Env) : getR (i + 1) (x :: r) = getR i r := by simp [getR]
@[simp] theorem lenD_lst (xs : List D) : lenD (.lst xs) = .ok (.int xs.length) := rfl
@[simp] theorem lenD_tup (xs : List D) : lenD (.tup xs) = .ok (.int xs.length) := rfl
@[simp] theorem lenD_scr (xs : List Int) : lenD (.scr xs) = .ok (.int xs.length) := rfl
@[simp] theorem sumD_scr (xs : List Int) : sumD (.scr xs) = .ok (.int xs.sum) := rfl
@[simp] theorem seq_ite (c : Prop) [Decidable c] (a b : Oc) (g : Env → Oc) : (if c then a else b).seq g = if c then a.seq g else b.seq g := by split <;> rfl
/-- a number of at most sixty figures -/
theorem bits_60 {i : Int} (h1 : -(10 ^ 60) ≤ i) (h2 : i ≤ 10 ^ 60) : bits i < 250 := bits_le (Nat.lt_of_le_of_lt (show i.natAbs ≤ 10 ^ 60 by omega) (by decide))
theorem runD_rt {p n : Nat} {g : Env → Oc} {ds : List D} {d : D} (h : ds.length = p) (e : g (startD n ds) = .rt d) : runD p n g ds = .ok d := by
  unfold runD
  rw [if_pos h, e]
theorem runD_nx {p n : Nat} {g : Env → Oc} {ds : List D} {r : Env} (h : ds.length = p) (e : g (startD n ds) = .nx r) : runD p n g ds = .ok .non := by
  unfold runD
  rw [if_pos h, e]
theorem runD_er {p n : Nat} {g : Env → Oc} {ds : List D} {r : Env} {d : D} (h : ds.length = p) (e : g (startD n ds) = .er d r) : runD p n g ds = .er d := by
  unfold runD
  rw [if_pos h, e]
theorem forD_ix {f : D → Env → Oc} {ds : List D} (P : Nat → Env → Prop) (h : ∀ i d, ds[i]? = some d → ∀ r, P i r → ∃ r', f d r = .nx r' ∧ P (i + 1) r') {r : Env} (h0 : P 0 r) : ∃ r', forD f ds r = .nx r' ∧ P ds.length r' := by
  have go : ∀ (ds : List D) (k : Nat) (r : Env), (∀ i d, ds[i]? = some d → ∀ r, P (k + i) r → ∃ r', f d r = .nx r' ∧ P (k + i + 1) r') → P k r → ∃ r', forD f ds r = .nx r' ∧ P (k + ds.length) r' := fun ds => by
    induction ds with
    | nil => exact fun k r _ h0 => ⟨r, rfl, h0⟩
    | cons d ds ih =>
      intro k r h h0
      obtain ⟨r1, h1, h2⟩ := h 0 d rfl r h0
      obtain ⟨r2, h3, h4⟩ := ih (k + 1) r1 (fun i e he r hr => by
        have z := h (i + 1) e (by simpa using he) r (by rw [show k + (i + 1) = k + 1 + i by omega]; exact hr)
        rw [show k + (i + 1) + 1 = k + 1 + i + 1 by omega] at z
        exact z) h2
      refine ⟨r2, ?_, by rw [List.length_cons, show k + (ds.length + 1) = k + 1 + ds.length by omega]; exact h4⟩
      rw [forD_cons, h1]
      exact h3
  obtain ⟨r', h1, h2⟩ := go ds 0 r (fun i d hd r hr => by
    rw [Nat.zero_add] at hr ⊢
    exact h i d hd r hr) h0
  exact ⟨r', h1, by rw [Nat.zero_add] at h2; exact h2⟩
/-- each turn goes on, P stays -/
theorem forD_all {f : D → Env → Oc} {ds : List D} (P : Env → Prop) (h : ∀ d ∈ ds, ∀ r, P r → ∃ r', f d r = .nx r' ∧ P r') {r : Env} (h0 : P r) : ∃ r', forD f ds r = .nx r' ∧ P r' :=
  forD_ix (fun _ => P) (fun i d hd r hr => h d (List.mem_of_getElem? hd) r hr) h0
@[simp] theorem rangeL_zero (lo : Int) : rangeL lo 0 = [] := rfl
theorem rng1_ok {n : Int} (h0 : -1000000000 ≤ n) (h1 : n ≤ 1000000000) : rng1 [.int n] = .ok (rangeL 0 n.toNat) := if_pos ⟨h0, h1⟩
@[simp] theorem rangeL_len (lo : Int) (n : Nat) : (rangeL lo n).length = n := by simp [rangeL]
end Mir
namespace Mir
open PySem PySem.Spec PyProof.Rows L2
variable [Tn]
def SIt (h : Heap) (k : Bool) (it l : Addr) (i : Nat) : Prop := match k with
  | true => h.IsListIter it l i
  | false => h.IsTupleIter it l i
def SSrc (h : Heap) (k : Bool) (l : Addr) (items : Array Value) : Prop := match k with
  | true => h.IsList l items
  | false => h.IsTuple l items
def clsI : Bool → String
  | true => "list_iterator"
  | false => "tuple_iterator"
theorem SIt.at {h h' : Heap} {k : Bool} {it l : Addr} {i : Nat} (x : SIt h k it l i) (f : ∀ o, h.get? it = some o → h'.get? it = some o) : SIt h' k it l i := by
  cases k with
  | true => exact Heap.IsListIter.at (show h.IsListIter it l i from x) f
  | false => exact Heap.IsTupleIter.at (show h.IsTupleIter it l i from x) f
theorem SIt.ob {h : Heap} {k : Bool} {it l : Addr} {i : Nat} (x : SIt h k it l i) : ∃ o, h.get? it = some o ∧ ∀ v, o.data ≠ .cell v := by
  cases k with
  | true =>
    obtain ⟨o, e, _, d⟩ := (show h.IsListIter it l i from x)
    exact ⟨o, e, fun v q => by rw [d] at q; cases q⟩
  | false =>
    obtain ⟨o, e, _, d⟩ := (show h.IsTupleIter it l i from x)
    exact ⟨o, e, fun v q => by rw [d] at q; cases q⟩
theorem SIt.lt {h : Heap} {k : Bool} {it l : Addr} {i : Nat} (x : SIt h k it l i) : it < h.objs.size := let ⟨_, e, _⟩ := x.ob; Heap.lt_size e
theorem SSrc.at {h h' : Heap} {k : Bool} {l : Addr} {xs : Array Value} (x : SSrc h k l xs) (f : ∀ o, h.get? l = some o → h'.get? l = some o) : SSrc h' k l xs := by
  cases k with
  | true => exact Heap.IsList.at (show h.IsList l xs from x) f
  | false =>
    obtain ⟨o, e, r⟩ := (show h.IsTuple l xs from x)
    exact ⟨o, f o e, r⟩
theorem SSrc.lt {h : Heap} {k : Bool} {l : Addr} {xs : Array Value} (x : SSrc h k l xs) : l < h.objs.size := by
  cases k with
  | true =>
    obtain ⟨o, e, _⟩ := (show h.IsList l xs from x)
    exact Heap.lt_size e
  | false =>
    obtain ⟨o, e, _⟩ := (show h.IsTuple l xs from x)
    exact Heap.lt_size e
abbrev IsT (h : Heap) (T : Addr) (vs : Array Value) : Prop := h.get? T = some { cls := .type "tuple", data := .seq vs }
section
variable {prog : Program} {w : World} {A : Around} {E : Value → Shared → Prop} {s : Shared}
theorem nextS_item {k : Bool} {it l : Addr} {i : Nat} {items : Array Value} {x : Value} {Q : Value → Shared → Prop} (hit : SIt s.heap k it l i) (hl : SSrc s.heap k l items) (hx : items[i]? = some x)
    (hQ : ∀ h', SIt h' k it l (i + 1) → Heap.SameBut it s.heap h' → Q x { s with heap := h' }) : wpAny (model prog w) A (Builtin.SmallTypes.nextOf (.ref it)) Q E s := by
  cases k with
  | true => exact wpAny_nextOf_list_item hit hl hx hQ
  | false => exact RZ.nextOf_tuple_item hit hl hx hQ
theorem nextS_end {k : Bool} {it l : Addr} {i : Nat} {items : Array Value} {Q : Value → Shared → Prop} (hh : A.handled = none) (hit : SIt s.heap k it l i) (hl : SSrc s.heap k l items) (hx : items[i]? = none)
    (hE : ∀ h' e, Heap.ExtBut it s.heap h' → (∃ o, h'.get? e = some o ∧ o.cls = .type "StopIteration") → E (.ref e) { s with heap := h' }) : wpAny (model prog w) A (Builtin.SmallTypes.nextOf (.ref it)) Q E s := by
  cases k with
  | true => exact wpAny_nextOf_list_end hh hit hl hx hE
  | false => exact RZ.nextOf_tuple_end hh hit hl hx hE
theorem updT {T : Addr} {vs : Array Value} {x : Value} {k : Nat} {Q : Unit → Shared → Prop} (hT : IsT s.heap T vs) (hs : vs.size ≤ 3) (h : ∀ h', IsT h' T (vs.setIfInBounds k x) → Heap.SameBut T s.heap h' → Q () { s with heap := h' }) :
    wpAny (model prog w) A (updateSeq T (·.setIfInBounds k x)) Q E s := by
  have hl : vs.size ≤ sizeLine := Nat.le_trans hs (by rw [sizeLine_eq]; decide)
  refine wpAny_updateSeq hT rfl (hz := hl) (_hz' := by simpa using Nat.le_succ_of_le hl) (h _ ?_ (Heap.SameBut.update ..))
  show Heap.get? _ _ = _
  rw [Heap.get?_update_self _ hT rfl]
  simp [Obj.mapSeq]
theorem iterS {k : Bool} {l : Addr} {items : Array Value} {Q : Value → Shared → Prop} (hl : SSrc s.heap k l items) (h : Q (.ref s.heap.objs.size) { s with heap := s.heap.push { cls := .type (clsI k), data := .fields #[.ref l, .int 0 0] } }) :
    wpAny (model prog w) A (pyIter (.ref l)) Q E s := by
  cases k with
  | true => exact wpAny_pyIter_list hl h
  | false => exact wpAny_pyIter_tuple hl h
end
structure ZA2 (z TI TO i1 i2 l1 l2 : Addr) : Prop where
  TIz : TI ≠ z
  TOz : TO ≠ z
  TITO : TI ≠ TO
  i1z : i1 ≠ z
  TIi1 : TI ≠ i1
  TOi1 : TO ≠ i1
  l1z : l1 ≠ z
  l1TO : l1 ≠ TO
  l1i1 : l1 ≠ i1
  l1i2 : l1 ≠ i2
  i1i2 : i1 ≠ i2
  i2z : i2 ≠ z
  TIi2 : TI ≠ i2
  TOi2 : TO ≠ i2
  l2z : l2 ≠ z
  l2TO : l2 ≠ TO
  l2i1 : l2 ≠ i1
  l2i2 : l2 ≠ i2
section
variable {prog : Program} {w : World} {A : Around} {E : Value → Shared → Prop} {s : Shared}
theorem zip2_item {z TI TO i1 i2 l1 l2 : Addr} {k1 k2 : Bool} {p : Nat} {xs1 xs2 : Array Value} {x1 x2 o1 o2 : Value} {Q : Value → Shared → Prop} (D : ZA2 z TI TO i1 i2 l1 l2) (hz : IsZip s.heap z TI TO .none) (hTI : IsT s.heap TI #[.ref i1, .ref i2]) (hTO : IsT s.heap TO #[o1, o2]) (h1 : SIt s.heap k1 i1 l1 p) (hl1 : SSrc s.heap k1 l1 xs1) (h2 : SIt s.heap k2 i2 l2 p) (hl2 : SSrc s.heap k2 l2 xs2) (hx1 : xs1[p]? = some x1) (hx2 : xs2[p]? = some x2)
    (hQ : ∀ h', IsZip h' z TI TO (rawInt s.heap.objs.size) → IsT h' TO #[x1, x2] → SIt h' k1 i1 l1 (p + 1) → SIt h' k2 i2 l2 (p + 1) → IsT h' s.heap.objs.size #[x1, x2] → h'.objs.size = s.heap.objs.size + 1 → (∀ c o, c ≠ z → c ≠ TO → c ≠ i1 → c ≠ i2 → s.heap.get? c = some o → h'.get? c = some o) → Q (.ref s.heap.objs.size) { s with heap := h' }) :
    wpAny (model prog w) A (Builtin.«zip.__next__» ⟨[.ref z], []⟩) (fun fin s' => ∃ v, fin = .done (.ret v) ∧ Q v s') E s := by
  show wpAny _ _ (field (.ref z) 2 >>= _) _ _ _
  refine wpAny_bind (wpAny_field hz rfl (x := .bool false) rfl ?_)
  show wpAny _ _ (field (.ref z) 3 >>= _) _ _ _
  refine wpAny_bind (wpAny_field hz rfl (x := .ref TI) rfl ?_)
  refine wpAny_bind (wpAny_seqItems hTI rfl ?_)
  show wpAny _ _ (Builtin.SmallTypes.ownedTupleIsFree (.ref z) >>= _) _ _ _
  refine wpAny_bind ?_
  unfold Builtin.SmallTypes.ownedTupleIsFree
  refine wpAny_bind (wpAny_field hz rfl (x := .none) rfl (wpAny_pure ?_))
  simp only [if_true]
  refine wpAny_bind (wpAny_rule ?_)
  refine wpAny_bind (wpAny_field hz rfl (x := .ref TO) rfl ?_)
  refine wpAny_bind (wpAny_setField_rec hz (by simp) fun g0 zz0 s0 => ?_)
  replace zz0 : IsZip g0 z TI TO .ellipsis := zz0
  have K0 : ∀ c o, c ≠ z → s.heap.get? c = some o → g0.get? c = some o := fun c o c1 e => s0.extBut _ _ c1 e
  have T0 : IsT g0 TO #[o1, o2] := K0 _ _ D.TOz hTO
  have Z0 : g0.objs.size = s.heap.objs.size := s0.1
  refine wpAny_bind ?_
  simp only [List.zipIdx_cons, List.zipIdx_nil, List.forIn_cons, List.forIn_nil]
  refine wpAny_bind (wpAny_bind (wpAny_onRaise ?_))
  show wpAny _ _ (Builtin.SmallTypes.nextOf (.ref i1) >>= _) _ _ _
  have I1 : SIt g0 k1 i1 l1 p := h1.at fun o e => K0 _ o (D.i1z) e
  have L1 : SSrc g0 k1 l1 xs1 := hl1.at fun o e => K0 _ o (D.l1z) e
  refine wpAny_bind (nextS_item I1 L1 hx1 fun a1 n1 sa1 => wpAny_pure ?_)
  have Ta1 : IsT a1 TO #[o1, o2] := sa1.extBut _ _ (D.TOi1) T0
  refine wpAny_bind (wpAny_seqItems Ta1 rfl ?_)
  refine wpAny_bind (updT Ta1 (by simp) fun g1 T1 st1 => ?_)
  replace T1 : IsT g1 TO #[x1, o2] := T1
  have K1 : ∀ c o, c ≠ z → c ≠ TO → c ≠ i1 → s.heap.get? c = some o → g1.get? c = some o := fun c o c0 c1 c2 e => st1.extBut _ _ c1 (sa1.extBut _ _ c2 (K0 c o c0 e))
  have zz1 : IsZip g1 z TI TO .ellipsis := st1.extBut _ _ (D.TOz.symm) (sa1.extBut _ _ (D.i1z.symm) zz0)
  have Z1 : g1.objs.size = s.heap.objs.size := by rw [st1.1, sa1.1, Z0]
  have N1_1 : SIt g1 k1 i1 l1 (p + 1) := n1.at fun o e => st1.extBut _ _ (D.TOi1.symm) e
  refine wpAny_bind (wpAny_letGo (wpAny_pure ?_))
  refine wpAny_bind (wpAny_bind (wpAny_onRaise ?_))
  show wpAny _ _ (Builtin.SmallTypes.nextOf (.ref i2) >>= _) _ _ _
  have I2 : SIt g1 k2 i2 l2 p := h2.at fun o e => K1 _ o (D.i2z) (D.TOi2.symm) (D.i1i2.symm) e
  have L2 : SSrc g1 k2 l2 xs2 := hl2.at fun o e => K1 _ o (D.l2z) (D.l2TO) (D.l2i1) e
  refine wpAny_bind (nextS_item I2 L2 hx2 fun a2 n2 sa2 => wpAny_pure ?_)
  have Ta2 : IsT a2 TO #[x1, o2] := sa2.extBut _ _ (D.TOi2) T1
  refine wpAny_bind (wpAny_seqItems Ta2 rfl ?_)
  refine wpAny_bind (updT Ta2 (by simp) fun g2 T2 st2 => ?_)
  replace T2 : IsT g2 TO #[x1, x2] := T2
  have K2 : ∀ c o, c ≠ z → c ≠ TO → c ≠ i1 → c ≠ i2 → s.heap.get? c = some o → g2.get? c = some o := fun c o c0 c1 c2 c3 e => st2.extBut _ _ c1 (sa2.extBut _ _ c3 (K1 c o c0 c1 c2 e))
  have zz2 : IsZip g2 z TI TO .ellipsis := st2.extBut _ _ (D.TOz.symm) (sa2.extBut _ _ (D.i2z.symm) zz1)
  have Z2 : g2.objs.size = s.heap.objs.size := by rw [st2.1, sa2.1, Z1]
  have N2_2 : SIt g2 k2 i2 l2 (p + 1) := n2.at fun o e => st2.extBut _ _ (D.TOi2.symm) e
  have N1_2 : SIt g2 k1 i1 l1 (p + 1) := N1_1.at fun o e => st2.extBut _ _ (D.TOi1.symm) (sa2.extBut _ _ (D.i1i2) e)
  refine wpAny_bind (wpAny_letGo (wpAny_pure (wpAny_pure ?_)))
  refine wpAny_bind (wpAny_seqItems T2 rfl ?_)
  refine wpAny_bind (wpAny_newTuple ?_)
  show wpAny _ _ (Builtin.SmallTypes.ownedTupleHandOut (.ref z) (.ref g2.objs.size) >>= _) _ _ _
  refine wpAny_bind ?_
  unfold Builtin.SmallTypes.ownedTupleHandOut
  have hzl : z < g2.objs.size := Heap.lt_size zz2
  have zp : IsZip (g2.push { cls := .type "tuple", data := .seq #[x1, x2] }) z TI TO .ellipsis := Heap.get?_push_of_some _ zz2
  refine wpAny_bind (wpAny_setField_rec zp (by simp) fun e7 z7 s7 => ?_)
  replace z7 : IsZip e7 z TI TO (rawInt g2.objs.size) := z7
  refine wpAny_setField_rec z7 (by simp) fun e8 z8 s8 => ?_
  replace z8 : IsZip e8 z TI TO (rawInt g2.objs.size) := z8
  have up : ∀ c o, c ≠ z → g2.get? c = some o → e8.get? c = some o := fun c o c1 e => s8.extBut _ _ c1 (s7.extBut _ _ c1 (Heap.get?_push_of_some _ e))
  have t8 : IsT e8 g2.objs.size #[x1, x2] := s8.extBut _ _ (Nat.ne_of_gt hzl) (s7.extBut _ _ (Nat.ne_of_gt hzl) (Heap.get?_push_size _ rfl))
  have y8 : e8.objs.size = g2.objs.size + 1 := by rw [s8.1, s7.1, Heap.size_push]
  rw [Z2] at z8 t8 y8
  refine wpAny_pure ⟨_, rfl, ?_⟩
  show Q (.ref g2.objs.size) _
  rw [Z2]
  exact hQ e8 z8 (up _ _ D.TOz T2) (N1_2.at fun o e => up _ o D.i1z e) (N2_2.at fun o e => up _ o D.i2z e) t8 y8 fun c o c0 c1 c2 c3 e => up c o c0 (K2 c o c0 c1 c2 c3 e)
theorem zip2_end {z TI TO i1 i2 l1 l2 : Addr} {k1 k2 : Bool} {p : Nat} {xs1 xs2 : Array Value} {o1 o2 : Value} {Q : Fin → Shared → Prop} (hh : A.handled = none) (D : ZA2 z TI TO i1 i2 l1 l2) (hz : IsZip s.heap z TI TO .none) (hTI : IsT s.heap TI #[.ref i1, .ref i2]) (hTO : IsT s.heap TO #[o1, o2]) (h1 : SIt s.heap k1 i1 l1 p) (hl1 : SSrc s.heap k1 l1 xs1) (h2 : SIt s.heap k2 i2 l2 p) (hl2 : SSrc s.heap k2 l2 xs2) (hend : xs1[p]? = none ∨ xs2[p]? = none)
    (hE : ∀ h' e, (∀ c o, c ≠ z → c ≠ TO → c ≠ i1 → c ≠ i2 → s.heap.get? c = some o → h'.get? c = some o) → (∃ o, h'.get? e = some o ∧ o.cls = .type "StopIteration") → E (.ref e) { s with heap := h' }) :
    wpAny (model prog w) A (Builtin.«zip.__next__» ⟨[.ref z], []⟩) Q E s := by
  show wpAny _ _ (field (.ref z) 2 >>= _) _ _ _
  refine wpAny_bind (wpAny_field hz rfl (x := .bool false) rfl ?_)
  show wpAny _ _ (field (.ref z) 3 >>= _) _ _ _
  refine wpAny_bind (wpAny_field hz rfl (x := .ref TI) rfl ?_)
  refine wpAny_bind (wpAny_seqItems hTI rfl ?_)
  show wpAny _ _ (Builtin.SmallTypes.ownedTupleIsFree (.ref z) >>= _) _ _ _
  refine wpAny_bind ?_
  unfold Builtin.SmallTypes.ownedTupleIsFree
  refine wpAny_bind (wpAny_field hz rfl (x := .none) rfl (wpAny_pure ?_))
  simp only [if_true]
  refine wpAny_bind (wpAny_rule ?_)
  refine wpAny_bind (wpAny_field hz rfl (x := .ref TO) rfl ?_)
  refine wpAny_bind (wpAny_setField_rec hz (by simp) fun g0 zz0 s0 => ?_)
  replace zz0 : IsZip g0 z TI TO .ellipsis := zz0
  have K0 : ∀ c o, c ≠ z → s.heap.get? c = some o → g0.get? c = some o := fun c o c1 e => s0.extBut _ _ c1 e
  have T0 : IsT g0 TO #[o1, o2] := K0 _ _ D.TOz hTO
  have Z0 : g0.objs.size = s.heap.objs.size := s0.1
  refine wpAny_bind ?_
  simp only [List.zipIdx_cons, List.zipIdx_nil, List.forIn_cons, List.forIn_nil]
  refine wpAny_bind (wpAny_bind (wpAny_onRaise ?_))
  show wpAny _ _ (Builtin.SmallTypes.nextOf (.ref i1) >>= _) _ _ _
  have I1 : SIt g0 k1 i1 l1 p := h1.at fun o e => K0 _ o (D.i1z) e
  have L1 : SSrc g0 k1 l1 xs1 := hl1.at fun o e => K0 _ o (D.l1z) e
  cases hx1 : xs1[p]? with
  | none =>
    refine wpAny_bind (nextS_end hh I1 L1 hx1 fun ae e xe he => ?_)
    obtain ⟨oe, hoe, hce⟩ := he
    have ze : IsZip ae z TI TO .ellipsis := xe _ _ (D.i1z.symm) zz0
    have hez : e ≠ z := fun q => by subst q; rw [ze] at hoe; cases hoe; simp at hce
    refine wpAny_setField_rec ze (by simp) fun be _ sb => hE be e (fun c o c0 c1 c2 c3 q => sb.extBut _ _ c0 (xe _ _ c2 (K0 c o c0 q))) ⟨oe, sb.extBut _ _ hez hoe, hce⟩
  | some x1 =>
    refine wpAny_bind (nextS_item I1 L1 hx1 fun a1 n1 sa1 => wpAny_pure ?_)
    have Ta1 : IsT a1 TO #[o1, o2] := sa1.extBut _ _ (D.TOi1) T0
    refine wpAny_bind (wpAny_seqItems Ta1 rfl ?_)
    refine wpAny_bind (updT Ta1 (by simp) fun g1 T1 st1 => ?_)
    replace T1 : IsT g1 TO #[x1, o2] := T1
    have K1 : ∀ c o, c ≠ z → c ≠ TO → c ≠ i1 → s.heap.get? c = some o → g1.get? c = some o := fun c o c0 c1 c2 e => st1.extBut _ _ c1 (sa1.extBut _ _ c2 (K0 c o c0 e))
    have zz1 : IsZip g1 z TI TO .ellipsis := st1.extBut _ _ (D.TOz.symm) (sa1.extBut _ _ (D.i1z.symm) zz0)
    have Z1 : g1.objs.size = s.heap.objs.size := by rw [st1.1, sa1.1, Z0]
    have N1_1 : SIt g1 k1 i1 l1 (p + 1) := n1.at fun o e => st1.extBut _ _ (D.TOi1.symm) e
    refine wpAny_bind (wpAny_letGo (wpAny_pure ?_))
    refine wpAny_bind (wpAny_bind (wpAny_onRaise ?_))
    show wpAny _ _ (Builtin.SmallTypes.nextOf (.ref i2) >>= _) _ _ _
    have I2 : SIt g1 k2 i2 l2 p := h2.at fun o e => K1 _ o (D.i2z) (D.TOi2.symm) (D.i1i2.symm) e
    have L2 : SSrc g1 k2 l2 xs2 := hl2.at fun o e => K1 _ o (D.l2z) (D.l2TO) (D.l2i1) e
    cases hx2 : xs2[p]? with
    | none =>
      refine wpAny_bind (nextS_end hh I2 L2 hx2 fun ae e xe he => ?_)
      obtain ⟨oe, hoe, hce⟩ := he
      have ze : IsZip ae z TI TO .ellipsis := xe _ _ (D.i2z.symm) zz1
      have hez : e ≠ z := fun q => by subst q; rw [ze] at hoe; cases hoe; simp at hce
      refine wpAny_setField_rec ze (by simp) fun be _ sb => hE be e (fun c o c0 c1 c2 c3 q => sb.extBut _ _ c0 (xe _ _ c3 (K1 c o c0 c1 c2 q))) ⟨oe, sb.extBut _ _ hez hoe, hce⟩
    | some x2 =>
      rcases hend with q | q
      · rw [hx1] at q; cases q
      · rw [hx2] at q; cases q
theorem pyNext_zip2 {z TI TO i1 i2 l1 l2 : Addr} {k1 k2 : Bool} {p : Nat} {xs1 xs2 : Array Value} {x1 x2 o1 o2 : Value} {Q : Option Value → Shared → Prop} (D : ZA2 z TI TO i1 i2 l1 l2) (hz : IsZip s.heap z TI TO .none) (hTI : IsT s.heap TI #[.ref i1, .ref i2]) (hTO : IsT s.heap TO #[o1, o2]) (h1 : SIt s.heap k1 i1 l1 p) (hl1 : SSrc s.heap k1 l1 xs1) (h2 : SIt s.heap k2 i2 l2 p) (hl2 : SSrc s.heap k2 l2 xs2) (hx1 : xs1[p]? = some x1) (hx2 : xs2[p]? = some x2)
    (hQ : ∀ h', IsZip h' z TI TO (rawInt s.heap.objs.size) → IsT h' TO #[x1, x2] → SIt h' k1 i1 l1 (p + 1) → SIt h' k2 i2 l2 (p + 1) → IsT h' s.heap.objs.size #[x1, x2] → h'.objs.size = s.heap.objs.size + 1 → (∀ c o, c ≠ z → c ≠ TO → c ≠ i1 → c ≠ i2 → s.heap.get? c = some o → h'.get? c = some o) → Q (some (.ref s.heap.objs.size)) { s with heap := h' }) :
    wpAny (model prog w) A (pyNext (.ref z)) Q E s := by
  have hT : s.TypeIs (.ref z) "zip" := ⟨_, hz, rfl⟩
  unfold pyNext
  exact wpAny_bind (wpAny_attempt (wpAny_callSpecial?_slot (name := Str.ofString "__next__") hT F.slot_zip_next (wpAny_call_entry F.slot_zip_next hT F.entry_zip_next (zip2_item D hz hTI hTO h1 hl1 h2 hl2 hx1 hx2 fun h' a0 a1 a2 a3 a4 a5 a6 => wpAny_pure (hQ h' a0 a1 a2 a3 a4 a5 a6)) (F.args_zip_next_1 _))))
theorem pyNext_zip2_end {z TI TO i1 i2 l1 l2 : Addr} {k1 k2 : Bool} {p : Nat} {xs1 xs2 : Array Value} {o1 o2 : Value} {Q : Option Value → Shared → Prop} (hh : A.handled = none) (D : ZA2 z TI TO i1 i2 l1 l2) (hz : IsZip s.heap z TI TO .none) (hTI : IsT s.heap TI #[.ref i1, .ref i2]) (hTO : IsT s.heap TO #[o1, o2]) (h1 : SIt s.heap k1 i1 l1 p) (hl1 : SSrc s.heap k1 l1 xs1) (h2 : SIt s.heap k2 i2 l2 p) (hl2 : SSrc s.heap k2 l2 xs2) (hend : xs1[p]? = none ∨ xs2[p]? = none)
    (hQ : ∀ h', (∀ c o, c ≠ z → c ≠ TO → c ≠ i1 → c ≠ i2 → s.heap.get? c = some o → h'.get? c = some o) → Q none { s with heap := h' }) : wpAny (model prog w) A (pyNext (.ref z)) Q E s := by
  have hT : s.TypeIs (.ref z) "zip" := ⟨_, hz, rfl⟩
  unfold pyNext
  refine wpAny_bind (wpAny_attempt (wpAny_callSpecial?_slot (name := Str.ofString "__next__") hT F.slot_zip_next (wpAny_call_entry F.slot_zip_next hT F.entry_zip_next (zip2_end hh D hz hTI hTO h1 hl1 h2 hl2 hend fun h' e hk he => ?_) (F.args_zip_next_1 _))))
  obtain ⟨o, ho, hc⟩ := he
  refine wpAny_bind (wpAny_isInstance (T := "StopIteration") (b := true) ⟨o, ho, hc⟩ isSubtype_stop ?_)
  exact wpAny_pure (hQ _ hk)
end
abbrev zH2_1 (h : Heap) (k1 : Bool) (l1 : Addr) : Heap := h.push { cls := .type (clsI k1), data := .fields #[.ref l1, .int 0 0] }
abbrev zH2_2 (h : Heap) (k1 k2 : Bool) (l1 l2 : Addr) : Heap := (zH2_1 h k1 l1).push { cls := .type (clsI k2), data := .fields #[.ref l2, .int 0 0] }
abbrev zH2_T (h : Heap) (k1 k2 : Bool) (l1 l2 : Addr) : Heap := (zH2_2 h k1 k2 l1 l2).push { cls := .type "tuple", data := .seq #[.ref h.objs.size, .ref (zH2_1 h k1 l1).objs.size] }
abbrev zH2_O (h : Heap) (k1 k2 : Bool) (l1 l2 : Addr) : Heap := (zH2_T h k1 k2 l1 l2).push { cls := .type "tuple", data := .seq #[.none, .none] }
abbrev zH2_Z (h : Heap) (k1 k2 : Bool) (l1 l2 : Addr) : Heap := (zH2_O h k1 k2 l1 l2).push { cls := .type "zip", data := .fields #[.none, .bool false, .bool false, .ref (zH2_2 h k1 k2 l1 l2).objs.size, .ref (zH2_T h k1 k2 l1 l2).objs.size] }
theorem meets_zip2 (k1 k2 : Bool) (l1 l2 : Addr) (xs1 xs2 : Array Value) :
    Meets (Builtin.«zip.__new__» ⟨[.type "zip", .ref l1, .ref l2], []⟩) (fun _ R s => (SSrc s.heap k1 l1 xs1 ∧ SSrc s.heap k2 l2 xs2) ∧ R (.ok (.ret (.ref (zH2_O s.heap k1 k2 l1 l2).objs.size))) { s with heap := zH2_Z s.heap k1 k2 l1 l2 }) :=
  .of_wp fun prog w A R s h => by
    obtain ⟨hp, g, d, tk, os⟩ := s; obtain ⟨⟨hl1, hl2⟩, h⟩ := h
    have hsub := sub_zip
    have M1 : SSrc (Shared.heap ⟨hp, g, d, tk, os⟩) k1 l1 xs1 := hl1
    have M2 : SSrc (Shared.heap ⟨(hp.push { cls := .type (clsI k1), data := .fields #[.ref l1, .int 0 0] }), g, d, tk, os⟩) k2 l2 xs2 := hl2.at fun o e => Heap.get?_push_of_some _ (e)
    wp_walk using iterS M1, iterS M2
    exact ⟨_, rfl, h⟩
theorem tc_zip2 (a1 a2 : Value) : checkTypeCall "zip" ⟨[a1, a2], []⟩ = pure () := by kernel_rfl
theorem nc_zip2 (a1 a2 : Value) : checkBuiltinCall "zip.__new__" ⟨[.type "zip", a1, a2], []⟩ = pure () := by kernel_rfl
theorem ai_zip2 (b a1 a2 : Value) : argsOk "object.__init__" ⟨[b, a1, a2], []⟩ := by
  unfold argsOk; rw [signature?_of (id := "object.__init__") (n := ['_', '_', 't', 'i', 'n', 'i', '_', '_']) (o := ['t', 'c', 'e', 'j', 'b', 'o']) (by kernel_rfl) F.owner_object]; kernel_rfl
section
variable {prog : Program} {w : World} {A : Around} {E : Value → Shared → Prop} {s : Shared}
theorem call_zip2 {k1 k2 : Bool} {l1 l2 : Addr} {xs1 xs2 : Array Value} {Q : Value → Shared → Prop} (hl1 : SSrc s.heap k1 l1 xs1) (hl2 : SSrc s.heap k2 l2 xs2)
    (h : ∀ h', IsZip h' (s.heap.objs.size + 4) (s.heap.objs.size + 2) (s.heap.objs.size + 3) .none → IsT h' (s.heap.objs.size + 2) #[.ref s.heap.objs.size, .ref (s.heap.objs.size + 1)] → IsT h' (s.heap.objs.size + 3) #[.none, .none] → SIt h' k1 s.heap.objs.size l1 0 → SIt h' k2 (s.heap.objs.size + 1) l2 0 → (∀ c o, s.heap.get? c = some o → h'.get? c = some o) → Q (.ref (s.heap.objs.size + 4)) { s with heap := h' }) :
    wpAny (model prog w) A (call (.type "zip") [.ref l1, .ref l2]) Q E s := by
  refine callType_new F.called_zip (by decide) (tc_zip2 _ _ ) (nc_zip2 _ _ ) (fun obj => ai_zip2 obj _ _ ) F.entry_zip_new (meets_zip2 k1 k2 l1 l2 xs1 xs2) ⟨⟨hl1, hl2⟩, ?_⟩
  have y1 : (zH2_1 s.heap k1 l1).objs.size = s.heap.objs.size + 1 := Heap.size_push ..
  have y2 : (zH2_2 s.heap k1 k2 l1 l2).objs.size = s.heap.objs.size + 2 := by rw [Heap.size_push, y1]
  have y3 : (zH2_T s.heap k1 k2 l1 l2).objs.size = s.heap.objs.size + 3 := by rw [Heap.size_push, y2]
  have y4 : (zH2_O s.heap k1 k2 l1 l2).objs.size = s.heap.objs.size + 4 := by rw [Heap.size_push, y3]
  have q0 : (zH2_Z s.heap k1 k2 l1 l2).get? s.heap.objs.size = some _ := Heap.get?_push_of_some _ (Heap.get?_push_of_some _ (Heap.get?_push_of_some _ (Heap.get?_push_of_some _ (Heap.get?_push_size _ rfl))))
  have q1 : (zH2_Z s.heap k1 k2 l1 l2).get? (zH2_1 s.heap k1 l1).objs.size = some _ := Heap.get?_push_of_some _ (Heap.get?_push_of_some _ (Heap.get?_push_of_some _ (Heap.get?_push_size _ rfl)))
  have q2 : (zH2_Z s.heap k1 k2 l1 l2).get? (zH2_2 s.heap k1 k2 l1 l2).objs.size = some _ := Heap.get?_push_of_some _ (Heap.get?_push_of_some _ (Heap.get?_push_size _ rfl))
  have q3 : (zH2_Z s.heap k1 k2 l1 l2).get? (zH2_T s.heap k1 k2 l1 l2).objs.size = some _ := Heap.get?_push_of_some _ (Heap.get?_push_size _ rfl)
  have q4 : (zH2_Z s.heap k1 k2 l1 l2).get? (zH2_O s.heap k1 k2 l1 l2).objs.size = some _ := Heap.get?_push_size _ rfl
  show _ ∧ _
  rw [y1] at q1
  rw [y1, y2] at q2
  rw [y3] at q3
  rw [y2, y3, y4] at q4
  rw [y4]
  exact ⟨⟨_, q4, rfl⟩, h _ q4 q2 q3 (show SIt _ k1 _ l1 0 by cases k1 <;> exact ⟨_, q0, rfl, rfl⟩) (show SIt _ k2 _ l2 0 by cases k2 <;> exact ⟨_, q1, rfl, rfl⟩) fun c o x => Heap.get?_push_of_some _ (Heap.get?_push_of_some _ (Heap.get?_push_of_some _ (Heap.get?_push_of_some _ (Heap.get?_push_of_some _ (x)))))⟩
theorem za2 {I l1 l2 : Nat} (e1 : l1 < I) (e2 : l2 < I) : ZA2 (I + 4) (I + 2) (I + 3) I (I + 1) l1 l2 := by
  constructor <;> (refine Nat.ne_iff_lt_or_gt.mpr ?_; omega)
end
/-- what stands at a: a list or a tuple -/
def SqS (K : PySem.W.Frag) (H : Hp) (k : Bool) (a : Addr) (xs : List V) : Prop := match k with
  | true => SqL K H a xs
  | false => SqT K H a xs
theorem SqS.keep {K : PySem.W.Frag} {H H' : Hp} {k : Bool} {a : Addr} {xs : List V} (e : Same H H') (h : SqS K H k a xs) : SqS K H' k a xs := by
  cases k with
  | true => exact e.seq (show SqL K H a xs from h)
  | false => exact Same.sqT e (show SqT K H a xs from h)
section
variable {X : Cx} {pins : List (Addr × Obj)} {σ : L2.St} {H : Hp} {s : Shared}
theorem Inv.srcS (I : L2.Inv X pins σ H s) {k : Bool} {a : Addr} {xs : List V} (h : SqS X.K H k a xs) : ∃ its : List Value, Vals xs its ∧ SSrc s.heap k a its.toArray := by
  cases k with
  | true =>
    obtain ⟨its, rv, p, _⟩ := I.list (show SqL X.K H a xs from h)
    exact ⟨its, rv, p.isList⟩
  | false =>
    obtain ⟨its, rv, p, _⟩ := I.tuple (show SqT X.K H a xs from h)
    exact ⟨its, rv, p⟩
end
/-- the items of things that stand, turn by turn, in new tuples -/
def ItZ2 (K : PySem.W.Frag) (k1 k2 : Bool) (l1 l2 : Addr) (ys1 ys2 : List V) : It :=
  ⟨fun i H => (SqS K H k1 l1 ys1 ∧ SqS K H k2 l2 ys2) ∧ i < ys1.length ∧ i < ys2.length, fun i H v H' => ∃ (T : Addr) (x1 x2 : V), v = .ref T ∧ H T = none ∧ H' = upd H T (.tup [x1, x2]) ∧ ys1[i]? = some x1 ∧ ys2[i]? = some x2, fun i H => (SqS K H k1 l1 ys1 ∧ SqS K H k2 l2 ys2) ∧ (ys1.length ≤ i ∨ ys2.length ≤ i)⟩
theorem turn_z2 {P : Program} {w : World} {K : PySem.W.Frag} {elts : List Expr} {kk : Nat} {tpos : Pos} {z TI TO i1 i2 l1 l2 : Addr} {k1 k2 : Bool} {ys1 ys2 : List V} (D : ZA2 z TI TO i1 i2 l1 l2) :
    Turn P w K (.Tuple elts kk tpos) (ItZ2 K k1 k2 l1 l2 ys1 ys2) [z, TI, TO, i1, i2] z (fun i h => IsZip h z TI TO .none ∧ IsT h TI #[.ref i1, .ref i2] ∧ (∃ o1 o2 : Value, IsT h TO #[o1, o2]) ∧ SIt h k1 i1 l1 i ∧ SIt h k2 i2 l2 i) where
  mem := by simp
  obj := fun i h ⟨hz, hTI, ⟨o1, o2, hTO⟩, h1, h2⟩ c hc => by
    have e' : c = z ∨ c = TI ∨ c = TO ∨ c = i1 ∨ c = i2 := by simpa using hc
    rcases e' with q | q | q | q | q
    · rw [q]; exact ⟨_, hz, fun v q => nomatch q⟩
    · rw [q]; exact ⟨_, hTI, fun v q => nomatch q⟩
    · rw [q]; exact ⟨_, hTO, fun v q => nomatch q⟩
    · rw [q]; exact h1.ob
    · rw [q]; exact h2.ob
  keep := fun i h h' ⟨hz, hTI, ⟨o1, o2, hTO⟩, h1, h2⟩ k => ⟨k z (by simp) _ hz, k TI (by simp) _ hTI, ⟨o1, o2, k TO (by simp) _ hTO⟩, h1.at fun o q => k i1 (by simp) o q, h2.at fun o q => k i2 (by simp) o q⟩
  item := by
    intro X hP hw hK hc i pins s σ H E I hf st hg
    subst hP hw hK
    obtain ⟨hz, hTI, ⟨o1, o2, hTO⟩, h1, h2⟩ := st
    obtain ⟨⟨q1, q2⟩, b1, b2⟩ := hg
    obtain ⟨its1, rv1, p1⟩ := Inv.srcS I q1
    have hx1 : ys1[i]? = some (ys1[i]'b1) := List.getElem?_eq_getElem b1
    generalize ys1[i]'b1 = x1 at hx1
    obtain ⟨u1, hu1, ru1⟩ := rv1.get hx1
    obtain ⟨its2, rv2, p2⟩ := Inv.srcS I q2
    have hx2 : ys2[i]? = some (ys2[i]'b2) := List.getElem?_eq_getElem b2
    generalize ys2[i]'b2 = x2 at hx2
    obtain ⟨u2, hu2, ru2⟩ := rv2.get hx2
    have hzl : z < s.heap.objs.size := Heap.lt_size hz
    refine pyNext_zip2 D hz hTI hTO h1 p1 h2 p2 (by simpa using hu1) (by simpa using hu2) fun h' z' TO' n1 n2 hT hsz hk => ?_
    refine ⟨_, rfl, wpAny_letOwnedTupleGo_zip (s := { s with heap := h' }) z' fun hq z2 sb => ?_⟩
    have hT2 : IsT hq s.heap.objs.size #[u1, u2] := (sb.2 _ (Nat.ne_of_gt hzl)).trans hT
    have new : ObjOk X.prog X.w (upd H s.heap.objs.size (.tup [x1, x2])) hq s.heap.objs.size (.tup [x1, x2]) :=
      ⟨by show 2 ≤ sizeLine; decide, [u1, u2], .cons ru1 (.cons ru2 (.nil)), ⟨_, hT2, rfl, _, rfl⟩⟩
    have I1 : L2.Inv X pins σ (upd H s.heap.objs.size (.tup [x1, x2])) { s with heap := hq } :=
      I.turnedNew (t' := s.toks) (ch := [z, TI, TO, i1, i2]) (fun c o hb q => (sb.2 c (fun q' => hb (by simp [q']))).trans (hk c o (fun q' => hb (by simp [q'])) (fun q' => hb (by simp [q'])) (fun q' => hb (by simp [q'])) (fun q' => hb (by simp [q'])) q)) hf (Nat.le_refl _) new
    refine ⟨.ref s.heap.objs.size, _, I1, rfl, ⟨_, x1, x2, rfl, I.hok.fresh (Nat.le_refl _), rfl, hx1, hx2⟩, ⟨z2, ?_, ⟨u1, u2, ?_⟩, ?_, ?_⟩, fun c hcm => ?_⟩
    · exact (sb.2 _ D.TIz).trans (hk _ _ D.TIz D.TITO D.TIi1 D.TIi2 hTI)
    · exact (sb.2 _ D.TOz).trans TO'
    · exact n1.at fun o q => (sb.2 _ D.i1z).trans q
    · exact n2.at fun o q => (sb.2 _ D.i2z).trans q
    · have hlt : c < s.heap.objs.size := by
        have e' : c = z ∨ c = TI ∨ c = TO ∨ c = i1 ∨ c = i2 := by simpa using hcm
        rcases e' with q | q | q | q | q
        · rw [q]; exact hzl
        · rw [q]; exact Heap.lt_size hTI
        · rw [q]; exact Heap.lt_size hTO
        · rw [q]; exact h1.lt
        · rw [q]; exact h2.lt
      rw [upd_ne (Nat.ne_of_lt hlt)]
      exact (hf c hcm).1
  done := by
    intro X hP hw hK hc i pins s σ H E I hf st hg
    subst hP hw hK
    obtain ⟨hz, hTI, ⟨o1, o2, hTO⟩, h1, h2⟩ := st
    obtain ⟨⟨q1, q2⟩, hend⟩ := hg
    obtain ⟨its1, rv1, p1⟩ := Inv.srcS I q1
    have e1 := rv1.length
    obtain ⟨its2, rv2, p2⟩ := Inv.srcS I q2
    have e2 := rv2.length
    have he : its1.toArray[i]? = none ∨ its2.toArray[i]? = none := by
      rcases hend with q | q
      · exact .inl (by simp; omega)
      · exact .inr (by simp; omega)
    exact pyNext_zip2_end (I.ok.hd hc) D hz hTI hTO h1 p1 h2 p2 he fun h' hk => ⟨rfl, I.turnedL (t' := s.toks) (ch := [z, TI, TO, i1, i2]) (fun c o hb q => hk c o (fun q' => hb (by simp [q'])) (fun q' => hb (by simp [q'])) (fun q' => hb (by simp [q'])) (fun q' => hb (by simp [q'])) q) hf⟩
  self := fun A i s Q E st h => wpAny_pyIter_zip st.1 h
def iZ2 (K : PySem.W.Frag) (ta : TA) : TI := fun σ H R => ta σ H fun vs H1 => ∃ (k1 k2 : Bool) (l1 l2 : Addr) (ys1 ys2 : List V), vs = [.ref l1, .ref l2] ∧ (SqS K H1 k1 l1 ys1 ∧ SqS K H1 k2 l2 ys2) ∧ R (ItZ2 K k1 k2 l1 l2 ys1 ys2) H1
theorem pi_z2 {X : Cx} {e1 e2 : Expr} {ta : TA} {p pos tpos : Pos} {elts : List Expr} {kk : Nat} (hg : Gl X "zip") (hm : X.mg "zip" = none) (ha : PA X [e1, e2] ta)
    (hs : starEach [e1, e2] X.env = (false, eval e1 X.env) :: starEach [e2] X.env := by rfl) (hpl : (backTo pos (starEach [e2] X.env)).any (·.1) = false := by rfl) :
    PI X (.Tuple elts kk tpos) (.Call (.Name "zip" p) [e1, e2] [] pos) (iZ2 X.K ta) := by
  refine ⟨fun pins s σ H R I h => ?_⟩
  refine Call_ (ld_blt I hg hm PyProof.Rows.boot_zip (PyProof.Rows.callWith_type1 (thn (ha.run pos pins s σ H _ I h) fun us s1 ⟨vs, H1, I1, r1, q1⟩ => ?_) hs hpl))
  obtain ⟨k1, k2, l1, l2, ys1, ys2, ex, ⟨q1, q2⟩, q⟩ := q1
  subst ex
  cases r1 with
  | cons r1v rr =>
    cases rr with
    | cons r2v rr =>
      cases rr
      cases r1v
      cases r2v
      obtain ⟨its1, rv1, p1⟩ := Inv.srcS I1 q1
      obtain ⟨its2, rv2, p2⟩ := Inv.srcS I1 q2
      have fresh : ∀ c, c ∈ ([s1.heap.objs.size + 4, s1.heap.objs.size + 2, s1.heap.objs.size + 3, s1.heap.objs.size, s1.heap.objs.size + 1] : List Addr) → FpOk X pins H1 c := fun c hcm => by
        have e' : c = s1.heap.objs.size + 4 ∨ c = s1.heap.objs.size + 2 ∨ c = s1.heap.objs.size + 3 ∨ c = s1.heap.objs.size ∨ c = s1.heap.objs.size + 1 := by simpa using hcm
        have hle : s1.heap.objs.size ≤ c := by rcases e' with z | z | z | z | z <;> (rw [z]; first | exact Nat.le_refl _ | exact Nat.le_add_right _ _)
        exact I1.fpOk hle (I1.hok.fresh hle)
      refine call_zip2 p1 p2 fun h' hz hTI hTO n1 n2 hk => wpAny_pyIter_zip hz ?_
      have I2 : L2.Inv X pins σ H1 { s1 with heap := h' } := I1.kept (t' := s1.toks) hk
      exact ⟨s1.heap.objs.size + 4, [s1.heap.objs.size + 4, s1.heap.objs.size + 2, s1.heap.objs.size + 3, s1.heap.objs.size, s1.heap.objs.size + 1], _, _, H1, rfl, I2, turn_z2 (za2 p1.lt p2.lt), ⟨hz, hTI, ⟨_, _, hTO⟩, n1, n2⟩, fresh, q⟩
/-- a datum's items, by their places -/
def seqQ : D → Option (List D)
  | .lst xs => some xs
  | .tup xs => some xs
  | .scr ns => some (ns.map D.int)
  | _ => none
theorem seqQ_rep {G : GC} {F H : Hp} {v : V} {d : D} {ds : List D} (s : Same F H) (r : Rep G F v d) (e : seqQ d = some ds) : ∃ k a ys, v = .ref a ∧ SqS G.K H k a ys ∧ RepAll G F ys ds := by
  cases r with
  | tup h ra => cases e; exact ⟨false, _, _, rfl, Same.sqT s h, ra⟩
  | lst h ra => cases e; exact ⟨true, _, _, rfl, .of (s _ _ h), ra⟩
  | scr h => cases e; exact ⟨true, _, _, rfl, s.seq h, ints_rep _⟩
  | _ => cases e
def zipL2 (xs ys : List D) : List D := (xs.zip ys).map fun p => .tup [p.1, p.2]
def zip2D : List D → Res (List D)
  | [a, b] => match seqQ a, seqQ b with
    | some xs, some ys => .ok (zipL2 xs ys)
    | _, _ => .bad
  | _ => .bad
theorem zip2D_inv (ds : List D) : (∃ a b xs ys, ds = [a, b] ∧ seqQ a = some xs ∧ seqQ b = some ys ∧ zip2D ds = .ok (zipL2 xs ys)) ∨ zip2D ds = .bad := by
  unfold zip2D
  split
  · rename_i a b
    split
    · rename_i xs ys h1 h2; exact .inl ⟨a, b, xs, ys, rfl, h1, h2, rfl⟩
    · exact .inr rfl
  · exact .inr rfl
theorem WalkD.zip2 {G : GC} {F : Hp} {k1 k2 : Bool} {l1 l2 : Addr} {ys1 ys2 : List V} {d1 d2 : List D} (hs : SqS G.K F k1 l1 ys1 ∧ SqS G.K F k2 l2 ys2) (r1 : RepAll G F ys1 d1) (r2 : RepAll G F ys2 d2) : WalkD G F F (ItZ2 G.K k1 k2 l1 l2 ys1 ys2) (zipL2 d1 d2) where
  goes := fun i H hi s => by
    obtain ⟨q1, q2⟩ := hs
    have w1 := r1.length
    have w2 := r2.length
    simp only [zipL2, List.length_map, List.length_zip] at hi
    exact ⟨⟨q1.keep s, q2.keep s⟩, by omega, by omega⟩
  stops := fun H s => by
    obtain ⟨q1, q2⟩ := hs
    have w1 := r1.length
    have w2 := r2.length
    refine ⟨⟨q1.keep s, q2.keep s⟩, ?_⟩
    simp only [zipL2, List.length_map, List.length_zip]
    omega
  yields := fun i F2 H2 v H3 hi s1 s2 _ ⟨T, x1, x2, e1, e2, e3, g1, g2⟩ => by
    subst e1 e3
    obtain ⟨c1, t1, m1⟩ := r1.getV g1
    obtain ⟨c2, t2, m2⟩ := r2.getV g2
    refine ⟨_, .tup [c1, c2], Grow.mk1 s2 e2, ?_, Rep.tup (.of upd_same) (.cons ((m1.mono s1).mono (Grow.mk1 s2 e2).f) (.cons ((m2.mono s1).mono (Grow.mk1 s2 e2).f) (.nil)))⟩
    unfold zipL2
    have hz : (d1.zip d2)[i]? = some (c1, c2) := List.getElem?_zip_eq_some.mpr ⟨t1, t2⟩
    rw [List.getElem?_map, hz]
    rfl
theorem ri_zip2 {X : Cx} {W : Wi} {e1 e2 : Expr} {p pos tpos : Pos} {elts : List Expr} {kk : Nat} {fa : Env → Res (List D)} (hm : X.mg "zip" = none) (ha : RA X W [e1, e2] fa) (hg : Gl X "zip" := by rfl)
    (hs : starEach [e1, e2] X.env = (false, eval e1 X.env) :: starEach [e2] X.env := by rfl) (hpl : (backTo pos (starEach [e2] X.env)).any (·.1) = false := by rfl) :
    RI X W true (.Tuple elts kk tpos) (.Call (.Name "zip" p) [e1, e2] [] pos) (fun r => fa r >>= zip2D) := by
  refine ⟨fun pins s σ H R I ⟨H0, F0, fp, F, r, m, o⟩ => (pi_z2 hg hm ha hs hpl).run pins s σ H R I ⟨H0, F0, fp, F, r, m, o.bind fun F' H' ds gr o2 vs rv => ?_⟩⟩
  rcases zip2D_inv ds with ⟨a, b, xs, ys, rfl, w1, w2, e⟩ | e
  · rw [e] at o2
    cases rv with
    | cons v1 rr =>
      cases rr with
      | cons v2 rr =>
        cases rr
        obtain ⟨k1, l1, ys1, rfl, q1, r1⟩ := seqQ_rep (Same.refl F') v1 w1
        obtain ⟨k2, l2, ys2, rfl, q2, r2⟩ := seqQ_rep (Same.refl F') v2 w2
        refine ⟨k1, k2, l1, l2, ys1, ys2, rfl, ⟨q1.keep gr.sub, q2.keep gr.sub⟩, o2 F' H' (Grow.refl gr.sub) _ (WalkD.zip2 ⟨q1, q2⟩ r1 r2)⟩
  · rw [e] at o2; exact o2.elim
end Mir
namespace Mir
open PySem PySem.Spec PyProof.Rows L2
variable [Tn]
def trD : D → Option Bool
  | .bl b => some b
  | .int i => some (i != 0)
  | _ => none
def trsD : List D → Option (List Bool)
  | [] => some []
  | d :: ds => match trD d, trsD ds with
    | some b, some bs => some (b :: bs)
    | _, _ => none
def trV : V → Bool → Prop := fun x b => x = .bl b ∨ ∃ i : Int, x = .int i ∧ b = (i != 0)
theorem trs_rep {G : GC} {F : Hp} : ∀ {vs : List V} {ds : List D} {bs : List Bool}, RepAll G F vs ds → trsD ds = some bs → Paired trV vs bs
  | _, _, _, .nil, e => by cases e; exact .nil
  | _, _, _, .cons (d := d) r t, e => by
    rw [trsD] at e
    split at e
    · rename_i b bs h1 h2
      cases e
      refine .cons ?_ (trs_rep t h2)
      cases d with
      | bl c => cases h1; cases r; exact .inl rfl
      | int i => cases h1; cases r; exact .inr ⟨i, rfl, rfl⟩
      | _ => cases h1
    · cases e
theorem paired_at {vs : List V} {bs : List Bool} {its : List Value} (p : Paired trV vs bs) (r : Vals vs its) : ∀ {i : Nat} {v : Value}, its[i]? = some v → ∃ x b, RelV x v ∧ trV x b ∧ bs[i]? = some b := by
  induction p generalizing its with
  | nil => cases r; intro i v h; simp at h
  | cons a l ih =>
    cases r with
    | cons q k =>
      intro i v h
      cases i with
      | zero =>
        simp at h
        subst h
        exact ⟨_, _, q, a, rfl⟩
      | succ i =>
        obtain ⟨x, b, h1, h2, h3⟩ := ih k (by simpa using h)
        exact ⟨x, b, h1, h2, by simpa using h3⟩
theorem truth_trs {prog : Program} {w : World} {A : Around} {vs : List V} {bs : List Bool} {its : List Value} (p : Paired trV vs bs) (r : Vals vs its) : TruthOf prog w A (fun i v => its.toArray[i]? = some v) (fun i => bs.getD i false) := fun i v s Q E hv hq => by
  obtain ⟨x, b, h1, h2, h3⟩ := paired_at p r (show its[i]? = some v by simpa using hv)
  have hg : bs.getD i false = b := by rw [List.getD_eq_getElem?_getD, h3] <;> rfl
  have hq' : Q (bs.getD i false) s := hq
  rw [hg] at hq'
  rcases h2 with rfl | ⟨j, rfl, rfl⟩
  · cases (show v = Value.bool b from h1)
    exact wpAny_truthy_bool hq'
  · obtain ⟨t, e⟩ := (show ∃ t, v = Value.int j t from h1)
    subst e
    exact PySem.P.truthy_int hq'
def rAllT (K : PySem.W.Frag) : List V → Hp → VK → Prop := fun vs H Q => ∃ (k : Bool) (a : Addr) (xs : List V) (bs : List Bool), vs = [V.ref a] ∧ SqS K H k a xs ∧ Paired trV xs bs ∧ Q (.bl (bs.all id)) H
theorem all_range' : ∀ bs : List Bool, (List.range bs.length).all (fun i => bs.getD i false) = bs.all id
  | [] => rfl
  | b :: bs => by
    rw [List.length_cons, List.range_succ_eq_map, List.all_cons, List.all_map, List.all_cons]
    have z := all_range' bs
    rw [← z]
    rfl
section
variable {X : Cx}
theorem walks_S {P : Program} {w : World} {A : Around} (hh : A.handled = none) (I ax : Addr) (hne : ax ≠ I) (k : Bool) (items : Array Value) : Walks P w A I [I, ax] [I] items.size (fun i v => items[i]? = some v) (fun i h => SIt h k I ax i ∧ SSrc h k ax items) := by
  cases k with
  | true => exact Walks.list hh I ax hne items
  | false => exact Walks.tuple hh I ax hne items
theorem cr_allT (hc : X.calm = true) : CallR X (.builtin "all") (rAllT X.K) := by
  intro pins s σ H vs us Q I r h
  obtain ⟨k, a, xs, bs, rfl, hs, pr, q⟩ := h
  obtain ⟨its, rv, hl⟩ := Inv.srcS I hs
  rw [Vals.ref1 r]
  have hlt := hl.lt
  have hlen : its.length = bs.length := by have h1 := rv.length; have h2 := Paired.length pr; omega
  refine call_all_walk (iterS hl ⟨_, _, _, _, _, _, _, rfl, walks_S (A := X.A.in1) (I.ok.hd hc) _ a (Nat.ne_of_lt hlt) k its.toArray, ⟨?_, hl.at fun o e => Heap.get?_push_of_some _ e⟩, truth_trs pr rv, fun h' tk hk => ?_⟩)
  · cases k <;> exact ⟨_, Heap.get?_push_size _ rfl, rfl, rfl⟩
  · refine ⟨.bl _, H, I.kept fun b o eo => hk b o (fun hmem => ?_) (Heap.get?_push_of_some _ eo), ?_, q⟩
    · rcases List.mem_cons.mp hmem with e1 | hmem
      · exact absurd (e1 ▸ Heap.lt_size eo) (Nat.lt_irrefl _)
      · cases hmem
    · show Value.bool _ = Value.bool _
      rw [← all_range', List.size_toArray, hlen]
def allT : D → Res D
  | .lst ds => match trsD ds with
    | some bs => .ok (.bl (bs.all id))
    | none => .bad
  | .tup ds => match trsD ds with
    | some bs => .ok (.bl (bs.all id))
    | none => .bad
  | _ => .bad
theorem b_allT (hc : X.calm = true) (hm : X.mg "all" = none) : BlM X "all" .S (one allT) := BlM.b hm boot_all' (cr_allT hc) (ne_one (fun d e z => by unfold allT at z; split at z <;> (try split at z) <;> cases z)) (cal_one fun F H x a d Q s ra e q => by
  unfold allT at e
  split at e
  · split at e <;> cases e
    rename_i bs h
    obtain ⟨p, vs, rfl, h1, r1⟩ := ra.lst s
    exact ⟨true, p, vs, bs, rfl, .of h1, trs_rep r1 h, q _ F H (Grow.refl s) (Rep.bl _)⟩
  · split at e <;> cases e
    rename_i bs h
    obtain ⟨p, vs, rfl, h1, r1⟩ := ra.tup s
    exact ⟨false, p, vs, bs, rfl, h1, trs_rep r1 h, q _ F H (Grow.refl s) (Rep.bl _)⟩
  · cases e)
end
end Mir
namespace Mir
open PySem PySem.Spec PyProof.Rows L2
variable [Tn]
def getK : List D → List D → NestedKey → Option D
  | k :: ks, v :: vs, q => if keyOf k = some q then some v else getK ks vs q
  | _, _, _ => none
def hasK (ks : List D) (q : NestedKey) : Bool := ks.any fun k => decide (keyOf k = some q)
def repK : List D → List D → NestedKey → D → List D
  | k :: ks, v :: vs, q, x => (if keyOf k = some q then x else v) :: repK ks vs q x
  | _, _, _, _ => []
/-- in its place, or at the end -/
def setK (ks vs : List D) (kd : D) (q : NestedKey) (x : D) : List D × List D := if hasK ks q = true then (ks, repK ks vs q x) else (ks ++ [kd], vs ++ [x])
/-- a tuple as a key -/
def keyT (d : D) : Option NestedKey := match d with
  | .tup xs => match keyOf (.tup xs) with
    | some q => if q.depth ≤ 8 then some q else none
    | none => none
  | _ => none
theorem keyT_some {d : D} {q : NestedKey} (h : keyT d = some q) : (∃ xs, d = .tup xs) ∧ keyOf d = some q ∧ q.depth ≤ 8 := by
  unfold keyT at h
  split at h
  · split at h
    · rename_i e
      split at h
      · rename_i hd
        cases h
        exact ⟨⟨_, rfl⟩, e, hd⟩
      · cases h
    · cases h
  · cases h
section
variable {G : GC} {F H : Hp}
abbrev EN := NestedKey × Addr × Value
theorem getK_at {q : NestedKey} : ∀ {xs : List EN} {ws : List V} {ks vs : List D}, Vals ws (xs.map (·.2.2)) → ks.map keyOf = xs.map (fun x => some x.1) → RepAll G F ws vs →
    (getK ks vs q = none ∧ atKey xs q = none) ∨ ∃ d e v, getK ks vs q = some d ∧ atKey xs q = some e ∧ RelV v e.2 ∧ Rep G F v d
  | [], _, ks, _, wv, ke, vr => by
    cases ks with
    | nil => exact .inl ⟨by unfold getK; rfl, rfl⟩
    | cons k ks => cases ke
  | x :: xs, _, ks, _, wv, ke, vr => by
    cases ks with
    | nil => cases ke
    | cons k ks =>
      rw [List.map_cons, List.map_cons, List.cons.injEq] at ke
      cases wv with
      | cons r1 rt =>
        cases vr with
        | cons p1 pt =>
          by_cases h : x.1 = q
          · refine .inr ⟨_, x.2, _, ?_, ?_, r1, p1⟩
            · rw [getK, if_pos (by rw [ke.1, h])]
            · simp [atKey, List.find?_cons, h]
          · have e1 : ∀ v vs', getK (k :: ks) (v :: vs') q = getK ks vs' q := fun v vs' => by rw [getK, if_neg (by rw [ke.1]; intro z; exact h (Option.some.inj z))]
            have e2 : atKey (x :: xs) q = atKey xs q := by simp [atKey, List.find?_cons, h]
            rw [e1, e2]
            exact getK_at rt ke.2 pt
theorem hasK_at {q : NestedKey} : ∀ {xs : List EN} {ks : List D}, ks.map keyOf = xs.map (fun x => some x.1) → hasK ks q = (atKey xs q).isSome
  | [], ks, ke => by
    cases ks with
    | nil => rfl
    | cons k ks => cases ke
  | x :: xs, ks, ke => by
    cases ks with
    | nil => cases ke
    | cons k ks =>
      rw [List.map_cons, List.map_cons, List.cons.injEq] at ke
      have ih := hasK_at (q := q) ke.2
      unfold hasK at ih ⊢
      rw [List.any_cons, ih, ke.1]
      by_cases h : x.1 = q
      · simp [atKey, List.find?_cons, h]
      · have z : ¬ (some x.1 = some q) := fun z => h (Option.some.inj z)
        simp [atKey, List.find?_cons, h, z]
/-- a table in the heap -/
structure DR (G : GC) (F : Hp) (xs : List EN) (ws : List V) (ks vs : List D) : Prop where
  wv : Vals ws (xs.map (·.2.2))
  kr : RepAll G F (xs.map fun x => V.ref x.2.1) ks
  ke : ks.map keyOf = xs.map (fun x => some x.1)
  vr : RepAll G F ws vs
theorem DR.mono {F' : Hp} {xs : List EN} {ws : List V} {ks vs : List D} (h : DR G F xs ws ks vs) (s : Same F F') : DR G F' xs ws ks vs := ⟨h.wv, h.kr.mono s, h.ke, h.vr.mono s⟩
theorem DR.len {xs : List EN} {ws : List V} {ks vs : List D} (h : DR G F xs ws ks vs) : xs.length = ks.length := by have := congrArg List.length h.ke; simpa using this.symm
theorem DR.nil : DR G F [] [] [] [] := ⟨.nil, .nil, rfl, .nil⟩
theorem DR.tail {x : EN} {xs : List EN} {w : V} {ws : List V} {k v : D} {ks vs : List D} (h : DR G F (x :: xs) (w :: ws) (k :: ks) (v :: vs)) : DR G F xs ws ks vs ∧ RelV w x.2.2 ∧ Rep G F (.ref x.2.1) k ∧ keyOf k = some x.1 ∧ Rep G F w v := by
  obtain ⟨h1, h2, h3, h4⟩ := h
  rw [List.map_cons, List.map_cons, List.cons.injEq] at h3
  cases h1 with
  | cons a b =>
    cases h2 with
    | cons c d =>
      cases h4 with
      | cons e f => exact ⟨⟨b, d, h3.2, f⟩, a, c, h3.1, e⟩
theorem DR.cons {x : EN} {xs : List EN} {w : V} {ws : List V} {k v : D} {ks vs : List D} (h : DR G F xs ws ks vs) (a : RelV w x.2.2) (b : Rep G F (.ref x.2.1) k) (c : keyOf k = some x.1) (d : Rep G F w v) : DR G F (x :: xs) (w :: ws) (k :: ks) (v :: vs) :=
  ⟨.cons a h.wv, .cons b h.kr, by rw [List.map_cons, List.map_cons, c, h.ke], .cons d h.vr⟩
theorem DR.shape {xs : List EN} {ws : List V} {ks vs : List D} (h : DR G F xs ws ks vs) : (xs = [] ∧ ws = [] ∧ ks = [] ∧ vs = []) ∨ ∃ x xs' w ws' k ks' v vs', xs = x :: xs' ∧ ws = w :: ws' ∧ ks = k :: ks' ∧ vs = v :: vs' := by
  obtain ⟨h1, h2, h3, h4⟩ := h
  cases xs with
  | nil => cases h1; cases h2; cases h4; exact .inl ⟨rfl, rfl, rfl, rfl⟩
  | cons x xs =>
    cases h1
    cases h2
    cases h4
    exact .inr ⟨_, _, _, _, _, _, _, _, rfl, rfl, rfl, rfl⟩
theorem DR.snoc {x : EN} {w : V} {k v : D} (a : RelV w x.2.2) (b : Rep G F (.ref x.2.1) k) (c : keyOf k = some x.1) (d : Rep G F w v) : ∀ {xs : List EN} {ws : List V} {ks vs : List D}, DR G F xs ws ks vs → DR G F (xs ++ [x]) (ws ++ [w]) (ks ++ [k]) (vs ++ [v])
  | xs, ws, ks, vs, h => by
    rcases h.shape with ⟨rfl, rfl, rfl, rfl⟩ | ⟨x', xs', w', ws', k', ks', v', vs', rfl, rfl, rfl, rfl⟩
    · exact DR.nil.cons a b c d
    · obtain ⟨t, e1, e2, e3, e4⟩ := h.tail
      exact (DR.snoc a b c d t).cons e1 e2 e3 e4
theorem DR.rep {q : NestedKey} {u : Value} {w : V} {d : D} (a : RelV w u) (b : Rep G F w d) : ∀ {xs : List EN} {ws : List V} {ks vs : List D}, DR G F xs ws ks vs → ∃ ws', DR G F (xs.map (putAt q u)) ws' ks (repK ks vs q d)
  | xs, ws, ks, vs, h => by
    rcases h.shape with ⟨rfl, rfl, rfl, rfl⟩ | ⟨x', xs', w', ws', k', ks', v', vs', rfl, rfl, rfl, rfl⟩
    · exact ⟨[], by rw [repK]; exact DR.nil; all_goals simp⟩
    · obtain ⟨t, e1, e2, e3, e4⟩ := h.tail
      obtain ⟨ws2, t2⟩ := DR.rep (q := q) a b t
      rw [repK, List.map_cons]
      by_cases hq : x'.1 = q
      · rw [if_pos (by rw [e3, hq])]
        have e : putAt q u x' = (x'.1, x'.2.1, u) := if_pos hq
        rw [e]
        exact ⟨w :: ws2, t2.cons a e2 e3 b⟩
      · rw [if_neg (by rw [e3]; intro z; exact hq (Option.some.inj z))]
        have e : putAt q u x' = x' := if_neg hq
        rw [e]
        exact ⟨w' :: ws2, t2.cons e1 e2 e3 e4⟩
theorem DR.set {q : NestedKey} {u : Value} {w : V} {b : Addr} {kd d : D} {xs : List EN} {ws : List V} {ks vs : List D} (h : DR G F xs ws ks vs) (a : RelV w u) (rb : Rep G F (.ref b) kd) (hk : keyOf kd = some q) (rw' : Rep G F w d) :
    ∃ ws', DR G F (storedH xs q b u) ws' (setK ks vs kd q d).1 (setK ks vs kd q d).2 := by
  unfold storedH setK
  rw [hasK_at h.ke]
  by_cases e : (atKey xs q).isSome = true
  · rw [if_pos e, if_pos e]
    exact DR.rep a rw' h
  · rw [if_neg e, if_neg e]
    exact ⟨_, DR.snoc (x := (q, b, u)) a rb hk rw' h⟩
theorem RdD.dr {v : V} {ks vs : List D} (s : Same F H) (h : RdD G F H v (.dic ks vs)) : ∃ a o xs ws, v = .ref a ∧ H a = some (.ext (isObj' a o)) ∧ (a == sysModules) = false ∧ DicO G o xs ∧ DR G F xs ws ks vs := by
  obtain ⟨a, o, xs, ws, rfl, h1, h2, h3, h4, h5, h6, h7⟩ := h.dic s
  exact ⟨a, o, xs, ws, rfl, h1, h2, h3, h4, h5, h6, h7⟩
theorem Own.dr {a : Addr} {o : Obj} {xs : List EN} {ws : List V} {ks vs : List D} (e : H a = some (.ext (isObj' a o))) (f : F a = none) (n : (a == sysModules) = false) (d : DicO G o xs) (r : DR G F xs ws ks vs) : Own G F H .flat (.ref a) (.dic ks vs) [a] :=
  .dic rfl e f n d r.wv r.kr r.ke (OwnAll.of_rep r.vr) (by simp)
end
section
variable {X : Cx} {pins : List (Addr × Obj)} {σ : L2.St} {H F : Hp} {s : Shared} {k : Nat}
theorem room8 (hr : Room k X.A) : (nestedKind X.prog X.w).room X.A.in1 := by
  have := hr.un
  show X.A.units + 1 + 8 < cLine
  omega
theorem dr_of (I : L2.Inv X pins σ H s) (sF : Same F H) {p : Addr} {o : Obj} {xs : List EN} {ws : List V} {ks vs : List D} (hp : H p = some (.ext (isObj' p o))) (dd : DicO (gOf X) o xs) (h : DR (gOf X) F xs ws ks vs) : s.heap.DictOfH (nestedKind X.prog X.w) p xs :=
  dic_of I sF hp dd h.kr h.ke
theorem key_is (I : L2.Inv X pins σ H s) (sF : Same F H) {b : Addr} {kd : D} {q : NestedKey} (r : Rep (gOf X) F (.ref b) kd) (h : keyT kd = some q) : (nestedKind X.prog X.w).is s.heap q b :=
  ⟨nested_of I sF r (keyT_some h).2.1 rfl, (keyT_some h).2.2⟩
/-- what stands behind a change -/
theorem dicO_of {p : Addr} {h' : Heap} {xs : List EN} (h : h'.DictOfH (nestedKind X.prog X.w) p xs) (hz : xs.length ≤ sizeLine) : ∃ o, h'.get? p = some o ∧ DicO (gOf X) o xs := by
  obtain ⟨o, es, ep, h1, h2, h3, h4, h5, h6⟩ := h
  exact ⟨o, h1, h2, ⟨es, ep, h3, h4⟩, h6, fun x hx => (h5 x hx).2, hz⟩
theorem ext_ok {p : Addr} {o : Obj} {h' : Heap} {P : Program} {w : World} {H' : Hp} (e : h'.get? p = some o) : ObjOk P w H' h' p (.ext (isObj' p o)) := ⟨e, ⟨o, e⟩, fun _ _ q k => k _ q⟩
theorem dicO_nil {o : Obj} (h : o = { cls := .type "dict", data := .dict #[] }) {G : GC} : DicO G o [] := by
  subst h
  exact ⟨⟨rfl, rfl, rfl⟩, ⟨#[], 0, rfl, rfl⟩, List.nodup_nil, (fun _ z => nomatch z), Nat.zero_le _⟩
theorem re_dic0 {W : Wi} {pos : Pos} : RE X W (.O .flat) (.Dict [] [] pos) (fun _ => .ok (.dic [] [])) := ⟨fun pins s σ H Q I ⟨H0, F0, fp, F, r, m, o⟩ => by
  have hn : (s.heap.objs.size == sysModules) = false := beq_eq_false_iff_ne.mpr (Ne.symm (Nat.ne_of_lt I.big))
  have hf := I.hok.fresh (Nat.le_refl _)
  refine wpAny_Dict_empty ⟨.ref s.heap.objs.size, _, I.laid (a := s.heap.objs.size) (o := .ext (isObj' s.heap.objs.size { cls := .type "dict", data := .dict #[] })) (t' := s.toks) (fun _ _ q => Heap.get?_push_of_some _ q) (Nat.le_refl _) (ext_ok (Heap.get?_push_size _ rfl)), rfl, ?_⟩
  exact o F _ (Grow.own m.sub hf) _ ⟨[_], Own.dr upd_same (m.sub.free hf) hn (dicO_nil rfl) DR.nil, fun a ha => by rw [List.mem_singleton.mp ha]; exact hf⟩⟩
end
def ixD (a i : D) : Res D := match a with
  | .dic ks vs => match keyT i with
    | some q => match getK ks vs q with
      | some d => .ok d
      | none => .bad
    | none => .bad
  | a => ixS a i
def inD (x xs : D) : Res D := match xs with
  | .dic ks _ => match keyT x with
    | some q => .ok (.bl (hasK ks q))
    | none => .bad
  | xs => inS x xs
def notInD (x xs : D) : Res D := match xs with
  | .dic ks _ => match keyT x with
    | some q => .ok (.bl (!hasK ks q))
    | none => .bad
  | xs => notInS x xs
theorem ne_ixD : NoEr2 ixD := fun a b e z => by
  unfold ixD at z
  split at z
  · split at z
    · split at z <;> cases z
    · cases z
  · exact ne_ix _ _ _ z
theorem ne_inD : NoEr2 inD := fun a b e z => by
  unfold inD at z
  split at z
  · split at z <;> cases z
  · exact ne_in _ _ _ z
theorem ne_notInD : NoEr2 notInD := fun a b e z => by
  unfold notInD at z
  split at z
  · split at z <;> cases z
  · exact ne_notIn _ _ _ z
section
variable {X : Cx} {W : Wi} {k : Nat} {a b c e : Expr} {fa fb fe : Env → Res D} {pos : Pos}
/-- a dict and a key -/
def rDK (X : Cx) (P : List EN → NestedKey → Hp → Prop) : V → V → Hp → Prop := fun x y H => ∃ (F : Hp) (p b : Addr) (o : Obj) (xs : List EN) (ws : List V) (ks vs : List D) (kd : D) (q : NestedKey), x = .ref p ∧ y = .ref b ∧ Same F H ∧ H p = some (.ext (isObj' p o)) ∧ (p == sysModules) = false ∧
  DicO (gOf X) o xs ∧ DR (gOf X) F xs ws ks vs ∧ Rep (gOf X) F (.ref b) kd ∧ keyT kd = some q ∧ P xs q H
theorem ix_dic (hr : Room k X.A) : IxR X (fun x y H Q => rDK X (fun xs q H => ∃ e v, atKey xs q = some e ∧ RelV v e.2 ∧ Q v H) x y H) := by
  intro value slice pins s σ H x y u1 u2 Q I r1 r2 h hs
  obtain ⟨F, p, b, o, xs, ws, ks, vs, kd, q, rfl, rfl, sF, hp, hn, dd, dr, rk, hk, e, v, he, rv, hq⟩ := h
  cases r1
  cases r2
  exact tail_any (dr_of I sF hp dd dr).typeIs slot_dict_getitem.lookup (wpAny_getItem_heap (room8 hr) (key_is I sF rk hk) (dr_of I sF hp dd dr) he ⟨v, H, I.tok _, rv, hq⟩) hs
theorem op_inDic (hr : Room k X.A) : OpR X (compareOp .In) (fun y x H Q => rDK X (fun xs q H => Q (.bl (atKey xs q).isSome) H) x y H) := by
  intro pins s σ H y x u2 u1 Q I r2 r1 h
  obtain ⟨F, p, b, o, xs, ws, ks, vs, kd, q, rfl, rfl, sF, hp, hn, dd, dr, rk, hk, hq⟩ := h
  cases r1
  cases r2
  exact wpAny_in_heap (room8 hr) (key_is I sF rk hk) hn (dr_of I sF hp dd dr) ⟨.bl _, H, I.tok _, rfl, hq⟩
theorem op_notInDic (hr : Room k X.A) : OpR X (compareOp .NotIn) (fun y x H Q => rDK X (fun xs q H => Q (.bl (!(atKey xs q).isSome)) H) x y H) := by
  intro pins s σ H y x u2 u1 Q I r2 r1 h
  obtain ⟨F, p, b, o, xs, ws, ks, vs, kd, q, rfl, rfl, sF, hp, hn, dd, dr, rk, hk, hq⟩ := h
  cases r1
  cases r2
  exact wpAny_notIn_heap (room8 hr) (key_is I sF rk hk) hn (dr_of I sF hp dd dr) ⟨.bl _, H, I.tok _, rfl, hq⟩
theorem key_ref {G : GC} {F H : Hp} {y : V} {kd : D} {q : NestedKey} (h : RdD G F H y kd) (hk : keyT kd = some q) : ∃ b, y = .ref b ∧ Rep G F (.ref b) kd := by
  obtain ⟨⟨xs, rfl⟩, _⟩ := keyT_some hk
  have z := h.tupS
  cases z with
  | tup h1 h2 => exact ⟨_, rfl, .tup h1 h2⟩
theorem ixD_ok : OpD (gOf X) (fun x y H Q => rIx X.K x y H Q ∨ rDK X (fun xs q H => ∃ e v, atKey xs q = some e ∧ RelV v e.2 ∧ Q v H) x y H) .R .R .S ixD := fun F H x y a b d Q Ha Hb s ka kb e k => by
  unfold ixD at e
  split at e
  · rename_i ks vs
    split at e
    · rename_i q hq
      split at e <;> cases e
      rename_i hg
      obtain ⟨p, o, xs, ws, rfl, h1, h2, h3, h4⟩ := RdD.dr s (show RdD (gOf X) F H x _ from ka)
      obtain ⟨b', rfl, rb⟩ := key_ref (show RdD (gOf X) F H y _ from kb) hq
      rcases getK_at (q := q) h4.wv h4.ke h4.vr with ⟨z, _⟩ | ⟨d', e', v, z1, z2, z3, z4⟩
      · rw [hg] at z; cases z
      · rw [hg] at z1
        cases z1
        exact .inr ⟨F, p, b', o, xs, ws, ks, vs, _, q, rfl, rfl, s, h1, h2, h3, h4, rb, hq, e', v, z2, z3, k v F H (Grow.refl s) z4⟩
    · cases e
  · exact .inl (ix_ok F H x y _ b d Q Ha Hb s ka kb e k)
theorem re_ix (hr : Room k X.A) (ha : RE X W .R a fa) (hb : RE X W .R b fb) (hs : PlainIx b := by intro _ _; rfl) : RE X W .S (.Subscript a b pos) (fun r => fa r >>= fun x => fb r >>= fun y => ixD x y) := (pe_ix (ix_seq.or (ix_dic hr)) ha hb hs).imp (t_op ixD_ok ne_ixD)
theorem inD_ok : OpD (gOf X) (fun y x H Q => rInD X.K y x H Q ∨ rDK X (fun xs q H => Q (.bl (atKey xs q).isSome) H) x y H) .R .R .S inD := fun F H y x b a d Q Ha Hb s kb ka e k => by
  unfold inD at e
  split at e
  · rename_i ks vs
    split at e <;> cases e
    rename_i q hq
    obtain ⟨p, o, xs, ws, rfl, h1, h2, h3, h4⟩ := RdD.dr s (show RdD (gOf X) F H x _ from ka)
    obtain ⟨b', rfl, rb⟩ := key_ref (show RdD (gOf X) F H y _ from kb) hq
    exact .inr ⟨F, p, b', o, xs, ws, ks, vs, _, q, rfl, rfl, s, h1, h2, h3, h4, rb, hq, by show Q _ H; rw [← hasK_at h4.ke]; exact k _ F H (Grow.refl s) (Rep.bl _)⟩
  · exact .inl (in_ok F H y x b _ d Q Ha Hb s kb ka e k)
theorem notInD_ok : OpD (gOf X) (fun y x H Q => rNotInD X.K y x H Q ∨ rDK X (fun xs q H => Q (.bl (!(atKey xs q).isSome)) H) x y H) .R .R .S notInD := fun F H y x b a d Q Ha Hb s kb ka e k => by
  unfold notInD at e
  split at e
  · rename_i ks vs
    split at e <;> cases e
    rename_i q hq
    obtain ⟨p, o, xs, ws, rfl, h1, h2, h3, h4⟩ := RdD.dr s (show RdD (gOf X) F H x _ from ka)
    obtain ⟨b', rfl, rb⟩ := key_ref (show RdD (gOf X) F H y _ from kb) hq
    exact .inr ⟨F, p, b', o, xs, ws, ks, vs, _, q, rfl, rfl, s, h1, h2, h3, h4, rb, hq, by show Q _ H; rw [← hasK_at h4.ke]; exact k _ F H (Grow.refl s) (Rep.bl _)⟩
  · exact .inl (notIn_ok F H y x b _ d Q Ha Hb s kb ka e k)
theorem c_notIn (hr : Room k X.A) : Cmp X .NotIn notInD := ⟨⟨_, (op_notInD (units65 hr)).or (op_notInDic hr), notInD_ok⟩, ne_notInD⟩
end
/-- the thing that the i-th name owns -/
def ownF (i : Nat) (r : Env) : Option D := match r[i]? with
  | some (.ow .flat d) => some d
  | _ => none
theorem ownF_some {i : Nat} {r : Env} {d : D} (h : ownF i r = some d) : r[i]? = some (.ow .flat d) := by
  unfold ownF at h
  split at h
  · rename_i e; cases h; exact e
  · cases h
/-- what stands behind d[i] = v -/
def setD (d i v : D) : Res D := match d with
  | .dic ks vs => match keyT i with
    | some q => if ks.length < lim then .ok (.dic (setK ks vs i q v).1 (setK ks vs i q v).2) else .bad
    | none => .bad
  | .lst ds => match i with
    | .int n => match ixN ds.length n with
      | some j => .ok (.lst (ds.set j v))
      | none => .bad
    | _ => .bad
  | _ => .bad
def setG (i : Nat) (fv fi : Env → Res D) (r : Env) : Oc := lift (fv r) r fun v => match ownF i r with
  | some d => lift (fi r) r fun n => match setD d n v with
    | .ok d' => .nx (r.set i (.ow .flat d'))
    | _ => .bad
  | none => .bad
section
variable {G : GC} {J : L2.St → Prop} {H0 F0 F H : Hp} {fp : Nat → List Addr} {σ : L2.St} {r : Env}
theorem MS.dic (m : MS G J H0 F0 fp F σ H r) {i : Nat} {ks vs : List D} (h : r[i]? = some (.ow .flat (.dic ks vs))) : ∃ a o xs ws, σ[i]? = some (some (.ref a)) ∧ H a = some (.ext (isObj' a o)) ∧ (a == sysModules) = false ∧ DicO G o xs ∧ DR G F xs ws ks vs ∧ fp i = [a] := by
  obtain ⟨⟨v, h1, h2⟩, _⟩ := m.ow i _ _ h
  generalize fp i = A at h2
  cases h2 with
  | dic _ e _ z1 z2 z3 z4 z5 ra na =>
    obtain ⟨rfl, rr⟩ := ra.to_rep
    exact ⟨_, _, _, _, h1, e, z1, z2, ⟨z3, z4, z5, rr⟩, rfl⟩
theorem MS.dicUpd (m : MS G J H0 F0 fp F σ H r) {i : Nat} {d : D} {a : Addr} {o : Obj} {xs : List EN} {ws : List V} {ks vs : List D} (h : r[i]? = some (.ow .flat d)) (hv : σ[i]? = some (some (.ref a))) (hf : fp i = [a]) (hn : (a == sysModules) = false) (dd : DicO G o xs) (dr : DR G F xs ws ks vs) :
    ∃ fp', MS G J H0 F0 fp' F σ (upd H a (.ext (isObj' a o))) (r.set i (.ow .flat (.dic ks vs))) := by
  obtain ⟨⟨v, h1, h2⟩, _⟩ := m.ow i _ _ h
  have fa := (h2.there a (by rw [hf]; simp)).1
  exact m.write (A := [a]) h hv (by rw [hf]; simp) (Own.dr upd_same fa hn dd dr) fun b hb => .inl (by rw [hf]; exact hb)
end
section
variable {X : Cx} {W : Wi} {k : Nat} {kk : Kd} {e iv : Expr} {fe fi : Env → Res D} {pos ps p2 apos cpos : Pos} {x : Str}
def rSetDic (X : Cx) : TSet := fun ov i v H Q => rDK X (fun xs q H => xs.length ≤ lim ∧ ∀ p b o' u, ov = .ref p → i = .ref b → RelV v u → DicO (gOf X) o' (storedH xs q b u) → Q (upd H p (.ext (isObj' p o')))) ov i H
theorem storedH_len (xs : List EN) (q : NestedKey) (b : Addr) (u : Value) : (storedH xs q b u).length ≤ xs.length + 1 := by
  unfold storedH
  split
  · simp
  · simp
theorem set_dic (hr : Room k X.A) : PSet X (rSetDic X) := by
  intro pins s σ H ov i v uo ui u Q I ro ri rv h
  obtain ⟨F, p, b, o, xs, ws, ks, vs, kd, q, rfl, rfl, sF, hp, hn, dd, dr, rk, hk, hl, hq⟩ := h
  cases ro
  cases ri
  refine wpAny_setItem_heap (hsz := dd.sz) (room8 hr) (key_is I sF rk hk) (dr_of I sF hp dd dr) fun h' hm' hs => ?_
  have hz : (storedH xs q b u).length ≤ sizeLine := by
    have h1 := storedH_len xs q b u
    have h2 : lim + 1 ≤ sizeLine := by rw [sizeLine_eq]; decide
    omega
  obtain ⟨o', e1, e2⟩ := dicO_of hm' hz
  exact ⟨_, d_write I (by rw [hp]; exact True.intro) hs ⟨o', e1⟩ (ext_ok e1), hq p b o' u rfl rfl rv e2⟩
theorem PSet.or {t t' : TSet} (h : PSet X t) (h' : PSet X t') : PSet X (fun o i v H Q => t o i v H Q ∨ t' o i v H Q) := by
  intro pins s σ H ov i v uo ui u Q I ro ri rv q
  rcases q with q | q
  · exact h pins s σ H ov i v uo ui u Q I ro ri rv q
  · exact h' pins s σ H ov i v uo ui u Q I ro ri rv q
theorem rs_setItem (i : Nat) (hr : Room k X.A) (he : RE X W .S e fe) (hi : RE X W .R iv fi) (hN : X.N[i]? = some x := by rfl) (hv : Vis X.env.scope x := by first | exact Or.inl rfl | exact Or.inr (Or.inl rfl) | exact Or.inr (Or.inr rfl)) (hd : (x == ("__debug__" : Str)) = false := by decide)
    (hcd : (x == ("__classdict__" : Str)) = false := by decide) (ha : ∀ v, assign (.Subscript (.Name x ps) iv p2) X.env v = (do
      let ov ← holding [v] (eval (.Name x ps) X.env)
      let iv ← holding [v, ov] (eval iv X.env)
      standAt p2
      holding [v, ov, iv] (setItem ov iv v)
      release [v, ov, iv] []) := by intro _; rfl)
    (hs : swapsWithSole [.Subscript (.Name x ps) iv p2] e pos.line X.env = pure false := by rfl) (hw : swappedStores [.Subscript (.Name x ps) iv p2] e X.env = pure none := by rfl) (h1 : (assignEach [.Subscript (.Name x ps) iv p2] X.env).map (·.2) = [assign (.Subscript (.Name x ps) iv p2) X.env] := by rfl) :
    RS X W kk (.Assign [.Subscript (.Name x ps) iv p2] e pos) (setG i fe fi) :=
  (ps_asg he (pg_sub (pe_var hN hv hd hcd) hi (PSet.or set_list (set_dic hr)) ha) hs hw h1).imp fun D σ H ⟨H0, F0, fp, F, r, m, o⟩ => ⟨H0, F0, fp, F, r, m, OutS.lift m o fun F' H' d gr o' v kv => by
    split at o'
    · rename_i dd ho
      have hi := ownF_some ho
      have m' := m.grow gr
      cases dd with
      | lst ds =>
        obtain ⟨a, vs, h1, h2, h3, h4⟩ := m'.lst hi
        refine ⟨.ref a, h1, H0, F0, fp, F', r, m', OutS.lift m' o' fun F2 H2 n g2 o2 u ku => ?_⟩
        cases n with
        | int n =>
          unfold setD at o2
          simp only at o2
          split at o2
          · rename_i z hz
            split at hz
            · rename_i j hj
              cases hz
              obtain ⟨fp', m2⟩ := (m'.grow g2).lstUpd hi h1 h4 ((h3.mono g2.f).set (Mir.Rep.mono g2.f kv) j)
              exact .inl ⟨a, vs, n, j, rfl, RdD.int ku, g2.h.at _ _ h2, by rw [h3.length]; exact hj, o2 fp' F2 σ _ (Same.refl _) m2⟩
            · cases hz
          · exact o2.elim
        | _ => exact o2.elim
      | dic ks vs =>
        obtain ⟨a, ob, xs, ws, h1, h2, h3, h4, h5, h6⟩ := m'.dic hi
        refine ⟨.ref a, h1, H0, F0, fp, F', r, m', OutS.lift m' o' fun F2 H2 n g2 o2 u ku => ?_⟩
        unfold setD at o2
        simp only at o2
        split at o2
        · rename_i z hz
          split at hz
          · rename_i q hq
            split at hz <;> cases hz
            rename_i hl
            obtain ⟨b, rfl, rb⟩ := key_ref (show RdD (gOf X) F2 H2 u _ from ku) hq
            have h5' := h5.mono g2.f
            refine .inr ⟨F2, a, b, ob, xs, ws, ks, vs, n, q, rfl, rfl, g2.sub, g2.h.at _ _ h2, h3, h4, h5', rb, hq, by rw [h5.len]; exact Nat.le_of_lt hl, fun p b' ob' uu ep eb ru dd' => ?_⟩
            cases ep
            cases eb
            obtain ⟨ws', dr'⟩ := h5'.set ru rb (keyT_some hq).2.1 (Mir.Rep.mono g2.f kv)
            obtain ⟨fp', m2⟩ := (m'.grow g2).dicUpd hi h1 h6 h3 dd' dr'
            exact o2 fp' F2 σ _ (Same.refl _) m2
          · cases hz
        · exact o2.elim
      | _ =>
        obtain ⟨⟨v', h1, _⟩, _⟩ := m'.ow i _ _ hi
        refine ⟨v', h1, H0, F0, fp, F', r, m', OutS.lift m' o' fun F2 H2 n g2 o2 u ku => ?_⟩
        exact o2.elim
    · exact o'.elim⟩
end
end Mir
namespace Mir
open PySem PySem.Spec PyProof.Rows L2
variable [Tn]
section
variable {prog : Program} {w : World} {K : Type} [DecidableEq K] {knd : HeapKind prog w K} {A : Around} {E : Value → Shared → Prop} {s : Shared}
def EqT (prog : Program) (w : World) (A : Around) (s : Shared) (y x : Value) (b : Bool) : Prop := ∀ (E : Value → Shared → Prop) (Q : Bool → Shared → Prop), Q b s → wpAny (model prog w) A (eqBool y x) Q E s
inductive HitsH (prog : Program) (w : World) (A : Around) (s : Shared) (ys : List (K × Addr × Value)) : List (K × Addr × Value) → Bool → Prop
  | nil : HitsH prog w A s ys [] true
  | miss {x : K × Addr × Value} {r : List (K × Addr × Value)} : atKey ys x.1 = none → HitsH prog w A s ys (x :: r) false
  | hit {x : K × Addr × Value} {e : Addr × Value} {r : List (K × Addr × Value)} {b : Bool} : atKey ys x.1 = some e → EqT prog w A s x.2.2 e.2 true → HitsH prog w A s ys r b → HitsH prog w A s ys (x :: r) b
  | not {x : K × Addr × Value} {e : Addr × Value} {r : List (K × Addr × Value)} : atKey ys x.1 = some e → EqT prog w A s x.2.2 e.2 false → HitsH prog w A s ys (x :: r) false
theorem atKey_of {xs : List (K × Addr × Value)} (hn : (xs.map (·.1)).Nodup) {j : Nat} {k : K} {p : Addr × Value} (h : xs[j]? = some (k, p)) : atKey xs k = some p := by
  induction xs generalizing j with
  | nil => simp at h
  | cons x xs ih =>
    rw [List.map_cons, List.nodup_cons] at hn
    cases j with
    | zero =>
      simp at h
      subst h
      simp [atKey, List.find?_cons]
    | succ j =>
      have h' : xs[j]? = some (k, p) := by simpa using h
      have ne : x.1 ≠ k := fun e => hn.1 (by rw [e]; exact List.mem_map.mpr ⟨(k, p), List.mem_of_getElem? h', rfl⟩)
      have := ih hn.2 h'
      simpa [atKey, List.find?_cons, ne] using this
theorem atKey_no {xs : List (K × Addr × Value)} {k : K} (h : ∀ (j : Nat) (p : Addr × Value), xs[j]? ≠ some (k, p)) : atKey xs k = none := by
  induction xs with
  | nil => rfl
  | cons x xs ih =>
    have ne : x.1 ≠ k := fun e => h 0 x.2 (by simp [← e])
    have := ih fun j p z => h (j + 1) p (by simpa using z)
    simpa [atKey, List.find?_cons, ne] using this
theorem samePairsH {nm : String} {a b : Addr} {xs ys : List (K × Addr × Value)} {r : Bool} {Q : Bool → Shared → Prop} (hu : knd.room A) (ha : (a == sysModules) = false) (hb : (b == sysModules) = false)
    (da : s.heap.DictOfH knd a xs) (db : s.heap.DictOfH knd b ys) (hits : xs.length = ys.length → HitsH prog w A s ys xs r) (h : Q (xs.length == ys.length && r) s) :
    wpAny (model prog w) A (Builtin.Dict.samePairs nm a b) Q E s := by
  obtain ⟨oa, es, ep, hoa, _, hda, hea, hia, hna⟩ := da
  obtain ⟨ob, fs, eq, hob, _, hdb, heb, hib, hnb⟩ := db
  have hla := size_of_entries hea
  have hlb := size_of_entries heb
  rw [← hla, ← hlb] at h hits
  unfold Builtin.Dict.samePairs Builtin.Dict.showsAll
  rw [if_neg (show ¬ (a == sysModules) = true by rw [ha]; decide), if_neg (show ¬ (b == sysModules) = true by rw [hb]; decide)]
  refine wpAny_bind (wpAny_pure (wpAny_bind (wpAny_pure (wpAny_bind (wpAny_dictEntries hoa hda ?_)))))
  dsimp only
  refine wpAny_bind (wpAny_dictEntries hob hdb ?_)
  by_cases hsz : es.size = fs.size
  case neg =>
    rw [if_pos (by simpa using hsz)]
    rw [beq_eq_false_iff_ne.mpr hsz, Bool.false_and] at h
    exact wpAny_bind (wpAny_rule (wpAny_pure h))
  case pos =>
    have h' : Q r s := by simpa [hsz] using h
    have hh := hits hsz
    rw [if_neg (by rw [hsz]; simp)]
    refine wpAny_bind (wpAny_dictEpoch hoa hda (wpAny_bind ?_))
    rw [Std.Legacy.Range.forIn_eq_forIn_range']; simp only [Std.Legacy.Range.size, Nat.sub_zero, Nat.add_sub_cancel, Nat.div_one]
    refine wpAny_forIn_list _ (fun rest q t => t = s ∧ q = (none, ()) ∧ ∃ i, rest = List.range' i (es.size - i) ∧ i ≤ es.size ∧ HitsH prog w A s ys (xs.drop i) r) _ ?_ ?_ _ _ ⟨rfl, rfl, 0, by simp, Nat.zero_le _, hh⟩
    · rintro j rest q t ⟨rfl, rfl, i, hr, hi, hp⟩
      have hlt : i < es.size := by
        rcases Nat.lt_or_ge i es.size with z | z
        · exact z
        · rw [Nat.sub_eq_zero_of_le z] at hr; simp at hr
      obtain ⟨rfl, hrest⟩ : j = i ∧ rest = List.range' (i + 1) (es.size - (i + 1)) := by
        rw [show es.size - i = (es.size - (i + 1)) + 1 by omega, List.range'_succ] at hr
        injection hr with h1 h2
        exact ⟨h1, h2⟩
      have hlx : j < xs.length := by rw [← hla]; exact hlt
      have hej : es[j]? = some (entryOfKey knd xs[j]) := by rw [entry_at hea j, List.getElem?_eq_getElem hlx]; rfl
      have hmem : xs[j] ∈ xs := List.getElem_mem hlx
      refine wpAny_bind (wpAny_dictEntries hoa hda ?_)
      rw [hej]
      rw [List.drop_eq_getElem_cons hlx] at hp
      generalize hx : xs[j] = x at hp hmem
      show wpAny _ _ (holding [Value.ref x.2.1, x.2.2] _ >>= _) _ _ _
      refine wpAny_bind (wpAny_holding (wpAny_bind (wpAny_dictFind_heap hu (hia x hmem) hob hdb heb hib hnb (fun no => ?_) fun jj p hp' => ?_)))
      · have hn := atKey_no no
        have er : r = false := by
          cases hp with
          | miss => rfl
          | hit z => rw [hn] at z; cases z
          | not z => rfl
        rw [er] at h'
        refine wpAny_pure ?_
        show wpAny _ _ (if (!false) = true then _ else _) _ _ _
        rw [if_pos (by decide)]
        exact wpAny_pure (wpAny_pure h')
      · have hs := atKey_of hnb hp'
        have hf : fs[jj]? = some (entryOfKey knd (x.1, p)) := by rw [entry_at heb jj, hp']; rfl
        refine wpAny_bind (wpAny_dictEntries hob hdb ?_)
        rw [hf]
        cases hp with
        | miss z => rw [hs] at z; cases z
        | not z hq =>
          rw [hs] at z
          cases z
          refine wpAny_holding (hq _ _ ?_)
          show wpAny _ _ (if (!false) = true then _ else _) _ _ _
          rw [if_pos (by decide)]
          exact wpAny_pure (wpAny_pure h')
        | hit z hq ht =>
          rw [hs] at z
          cases z
          refine wpAny_holding (hq _ _ ?_)
          show wpAny _ _ (if (!true) = true then _ else _) _ _ _
          rw [if_neg (by decide)]
          refine wpAny_bind (wpAny_dictEpoch hoa hda ?_)
          rw [if_neg (by simp)]
          exact wpAny_pure ⟨rfl, rfl, j + 1, hrest, hlt, ht⟩
    · rintro q t ⟨rfl, rfl, i, hr, hi, hp⟩
      have hin : i = es.size := by
        rcases Nat.lt_or_ge i es.size with z | z
        · rw [show es.size - i = (es.size - (i + 1)) + 1 by omega, List.range'_succ] at hr; exact nomatch hr
        · exact Nat.le_antisymm hi z
      refine wpAny_pure ?_
      rw [hin, hla, List.drop_length] at hp
      cases hp
      exact h'
theorem cmpH {op : CmpOp} {b : Bool} {a c : Addr} {xs ys : List (K × Addr × Value)} {r : Bool} {Q : Value → Shared → Prop} (ho : (op = .Eq ∧ b = true) ∨ (op = .NotEq ∧ b = false)) (hu : knd.room A.in1) (hv : A.units < cLine) (ha : (a == sysModules) = false) (hc : (c == sysModules) = false)
    (da : s.heap.DictOfH knd a xs) (dc : s.heap.DictOfH knd c ys) (hits : xs.length = ys.length → HitsH prog w A.in1 s ys xs r) (h : Q (.bool (if b = true then (xs.length == ys.length && r) else !(xs.length == ys.length && r))) s) :
    wpAny (model prog w) A (compareOp op (.ref a) (.ref c)) Q E s := by
  rcases ho with ⟨rfl, rfl⟩ | ⟨rfl, rfl⟩
  · refine wpAny_richCompare_same_room (op := .Eq) da.typeIs dc.typeIs PySem.F.slot_dict_eq (wpAny_call_entry PySem.F.slot_dict_eq da.typeIs PySem.F.entry_dict_eq ?_ (PySem.F.args_dict_eq_2 _ _)) hv
    show wpAny _ _ (Builtin.Dict.dictSlotArgs "__eq__" ⟨[.ref a, .ref c], []⟩ >>= _) _ _ s
    unfold Builtin.Dict.dictSlotArgs
    refine wpAny_bind (wpAny_bind (wpAny_notOrdered_dict da.typeIs ?_))
    show wpAny _ _ (pure (Value.ref a, Value.ref c)) _ _ s
    refine wpAny_pure (wpAny_bind (wpAny_isInstance (T := "dict") dc.typeIs PySem.F.sub_dict_dict ?_))
    simp only [Bool.not_true, Bool.false_eq_true, if_false]; refine wpAny_bind (wpAny_pure (wpAny_bind (wpAny_pure (wpAny_bind (samePairsH hu ha hc da dc hits ?_)))))
    exact wpAny_pure ⟨_, rfl, ⟨(fun x => nomatch x), by simpa using h⟩⟩
  · refine wpAny_richCompare_same_room (op := .NotEq) da.typeIs dc.typeIs PySem.F.slot_dict_ne (wpAny_call_entry PySem.F.slot_dict_ne da.typeIs PySem.F.entry_dict_ne ?_ (PySem.F.args_dict_ne_2 _ _)) hv
    show wpAny _ _ (Builtin.Dict.dictSlotArgs "__ne__" ⟨[.ref a, .ref c], []⟩ >>= _) _ _ s
    unfold Builtin.Dict.dictSlotArgs
    refine wpAny_bind (wpAny_bind (wpAny_notOrdered_dict da.typeIs ?_))
    show wpAny _ _ (pure (Value.ref a, Value.ref c)) _ _ s
    refine wpAny_pure (wpAny_bind (wpAny_isInstance (T := "dict") dc.typeIs PySem.F.sub_dict_dict ?_))
    simp only [Bool.not_true, Bool.false_eq_true, if_false]; refine wpAny_bind (wpAny_pure (wpAny_bind (wpAny_pure (wpAny_bind (samePairsH hu ha hc da dc hits ?_)))))
    exact wpAny_pure ⟨_, rfl, ⟨(fun x => nomatch x), by simpa using h⟩⟩
end
/-- whether the values stand in the other table, too -/
def sameK : List D → List D → List D → List D → Option Bool
  | k :: ks, v :: vs, ks2, vs2 => match keyOf k with
    | some q => match getK ks2 vs2 q with
      | none => some false
      | some u => match eqS v u with
        | .ok (.bl true) => sameK ks vs ks2 vs2
        | .ok (.bl false) => some false
        | _ => none
    | none => none
  | _, _, _, _ => some true
def sameD (ks vs ks2 vs2 : List D) : Option Bool := if ks.length = ks2.length then sameK ks vs ks2 vs2 else some false
def eqD (a b : D) : Res D := match a, b with
  | .dic ks vs, .dic ks2 vs2 => match sameD ks vs ks2 vs2 with
    | some b => .ok (.bl b)
    | none => .bad
  | a, b => eqS a b
def neD (a b : D) : Res D := match a, b with
  | .dic ks vs, .dic ks2 vs2 => match sameD ks vs ks2 vs2 with
    | some b => .ok (.bl (!b))
    | none => .bad
  | a, b => neS a b
theorem ne_eqD : NoEr2 eqD := fun a b e z => by
  unfold eqD at z
  split at z
  · split at z <;> cases z
  · exact ne_eq _ _ _ z
theorem ne_neD : NoEr2 neD := fun a b e z => by
  unfold neD at z
  split at z
  · split at z <;> cases z
  · exact ne_ne _ _ _ z
section
variable {X : Cx} {pins : List (Addr × Obj)} {σ : L2.St} {H F : Hp} {s : Shared} {k : Nat}
theorem eqT_of (I : L2.Inv X pins σ H s) (sF : Same F H) (hr : X.A.units + 65 < cLine) {v u : V} {x y : Value} {d e : D} {b : Bool} (h : eqS d e = .ok (.bl b)) (rv : Rep (gOf X) F v d) (ru : Rep (gOf X) F u e) (hx : RelV v x) (hy : RelV u y) : EqT X.prog X.w X.A.in1 s x y b := by
  unfold eqS at h
  split at h
  · rename_i p q h1 h2
    split at h
    · rename_i hs
      injection h with h
      injection h with h
      subst h
      obtain ⟨as, r1⟩ := Dp.reads I p v x (rv.dp sF h1) hx
      obtain ⟨bs, r2⟩ := Dp.reads I q u y (ru.dp sF h2) hy
      have z := PySem.W.keq_at (A := X.A) r1 r2 hs.1 hs.2 (show X.A.units + 1 + 64 < cLine by omega)
      exact fun E Q hq => z X.prog X.w E Q hq
    · cases h
  · cases h
theorem hits_of (I : L2.Inv X pins σ H s) (sF : Same F H) (hr : X.A.units + 65 < cLine) {ys : List EN} {us : List V} {ks2 vs2 : List D} (h2 : DR (gOf X) F ys us ks2 vs2) : ∀ {xs : List EN} {ws : List V} {ks vs : List D} {b : Bool}, DR (gOf X) F xs ws ks vs → sameK ks vs ks2 vs2 = some b → HitsH X.prog X.w X.A.in1 s ys xs b
  | xs, ws, ks, vs, b, h, e => by
    rcases h.shape with ⟨rfl, rfl, rfl, rfl⟩ | ⟨x, xs', w, ws', k, ks', v, vs', rfl, rfl, rfl, rfl⟩
    · simp [sameK] at e
      subst e
      exact .nil
    · obtain ⟨t, e1, e2, e3, e4⟩ := h.tail
      rw [sameK, e3] at e
      simp only at e
      rcases getK_at (q := x.1) h2.wv h2.ke h2.vr with ⟨z1, z2⟩ | ⟨d, en, u, z1, z2, z3, z4⟩
      · rw [z1] at e
        cases e
        exact .miss z2
      · rw [z1] at e
        simp only at e
        split at e
        · rename_i he
          exact .hit z2 (eqT_of I sF hr he e4 z4 e1 z3) (hits_of I sF hr h2 t e)
        · rename_i he
          cases e
          exact .not z2 (eqT_of I sF hr he e4 z4 e1 z3)
        · cases e
def rDD (X : Cx) (P : Bool → Hp → Prop) : V → V → Hp → Prop := fun x y H => ∃ (F : Hp) (p p2 : Addr) (o o2 : Obj) (xs ys : List EN) (ws us : List V) (ks vs ks2 vs2 : List D) (b : Bool), x = .ref p ∧ y = .ref p2 ∧ Same F H ∧ H p = some (.ext (isObj' p o)) ∧ (p == sysModules) = false ∧
  DicO (gOf X) o xs ∧ DR (gOf X) F xs ws ks vs ∧ H p2 = some (.ext (isObj' p2 o2)) ∧ (p2 == sysModules) = false ∧ DicO (gOf X) o2 ys ∧ DR (gOf X) F ys us ks2 vs2 ∧ sameD ks vs ks2 vs2 = some b ∧ P b H
theorem op_cmpH (hr : Room k X.A) {op : CmpOp} {c : Bool} (ho : (op = .Eq ∧ c = true) ∨ (op = .NotEq ∧ c = false)) : OpR X (compareOp op) (fun x y H Q => rDD X (fun b H => Q (.bl (if c = true then b else !b)) H) x y H) := by
  intro pins s σ H x y u1 u2 Q I r1 r2 h
  obtain ⟨F, p, p2, o, o2, xs, ys, ws, us, ks, vs, ks2, vs2, b, rfl, rfl, sF, hp, hn, dd, dr, hp2, hn2, dd2, dr2, hb, hq⟩ := h
  cases r1
  cases r2
  have hu := hr.un
  unfold sameD at hb
  rw [← dr.len, ← dr2.len] at hb
  split at hb
  · rename_i hl
    refine cmpH ho (room8 hr) (by omega) hn hn2 (dr_of I sF hp dd dr) (dr_of I sF hp2 dd2 dr2) (fun _ => hits_of I sF (by omega) dr2 dr hb) ⟨.bl (if c = true then b else !b), H, I, ?_, hq⟩
    rw [hl, beq_self_eq_true, Bool.true_and] <;> rfl
  · rename_i hl
    cases hb
    refine cmpH (r := true) ho (room8 hr) (by omega) hn hn2 (dr_of I sF hp dd dr) (dr_of I sF hp2 dd2 dr2) (fun z => (hl z).elim) ⟨.bl (if c = true then false else !false), H, I, ?_, hq⟩
    rw [beq_eq_false_iff_ne.mpr hl, Bool.false_and] <;> rfl
theorem eqD_ok' : OpD (gOf X) (fun x y H Q => rEqD X.K x y H Q ∨ rDD X (fun b H => Q (.bl (if true = true then b else !b)) H) x y H) .R .R .S eqD := fun F H x y a b d Q Ha Hb s ka kb e k => by
  unfold eqD at e
  split at e
  · split at e <;> cases e
    rename_i hb
    obtain ⟨p, o, xs, ws, rfl, h1, h2, h3, h4⟩ := RdD.dr s (show RdD (gOf X) F H x _ from ka)
    obtain ⟨p', o', xs', ws', rfl, h1', h2', h3', h4'⟩ := RdD.dr s (show RdD (gOf X) F H y _ from kb)
    exact .inr ⟨F, p, p', o, o', xs, xs', ws, ws', _, _, _, _, _, rfl, rfl, s, h1, h2, h3, h4, h1', h2', h3', h4', hb, k _ F H (Grow.refl s) (Rep.bl _)⟩
  · exact .inl (eq_ok F H x y _ _ d Q Ha Hb s ka kb e k)
theorem neD_ok' : OpD (gOf X) (fun x y H Q => rNeD X.K x y H Q ∨ rDD X (fun b H => Q (.bl (if false = true then b else !b)) H) x y H) .R .R .S neD := fun F H x y a b d Q Ha Hb s ka kb e k => by
  unfold neD at e
  split at e
  · split at e <;> cases e
    rename_i hb
    obtain ⟨p, o, xs, ws, rfl, h1, h2, h3, h4⟩ := RdD.dr s (show RdD (gOf X) F H x _ from ka)
    obtain ⟨p', o', xs', ws', rfl, h1', h2', h3', h4'⟩ := RdD.dr s (show RdD (gOf X) F H y _ from kb)
    exact .inr ⟨F, p, p', o, o', xs, xs', ws, ws', _, _, _, _, _, rfl, rfl, s, h1, h2, h3, h4, h1', h2', h3', h4', hb, k _ F H (Grow.refl s) (Rep.bl _)⟩
  · exact .inl (ne_ok F H x y _ _ d Q Ha Hb s ka kb e k)
theorem c_eq (hr : Room k X.A) : Cmp X .Eq eqD := ⟨⟨_, (op_eqD hr.units).or (op_cmpH hr (.inl ⟨rfl, rfl⟩)), eqD_ok'⟩, ne_eqD⟩
theorem c_ne (hr : Room k X.A) : Cmp X .NotEq neD := ⟨⟨_, (op_neD hr.units).or (op_cmpH hr (.inr ⟨rfl, rfl⟩)), neD_ok'⟩, ne_neD⟩
end
section
variable {prog : Program} {w : World} {A : Around} {E : Value → Shared → Prop} {s : Shared}
theorem dictCopyH {o : Addr} {xs : List EN} {Q : Value → Shared → Prop} (hu : (nestedKind prog w).room A.in1.in1) (hoS : (o == sysModules) = false) (ho : s.heap.DictOfH (nestedKind prog w) o xs) (hsz : xs.length ≤ sizeLine) (hap : (xs.map fun x => (nestedKind prog w).hash x.1).Nodup)
    (h : ∀ h', h'.DictOfH (nestedKind prog w) s.heap.objs.size xs → Heap.SameBut s.heap.objs.size (s.heap.push { cls := .type "dict", data := .dict #[] }) h' → Q (.ref s.heap.objs.size) { s with heap := h' }) :
    wpAny (model prog w) A (call (.type "dict") [.ref o]) Q E s := by
  refine callType_codes (Q₁ := fun ob t => ob = .ref s.heap.objs.size ∧ t = { s with heap := s.heap.push { cls := .type "dict", data := .dict #[] } }) F.kt_called_dict (F.kt_typeCall_dict_1 _) F.entry_dict_init (kt_code_dict_new _ ⟨rfl, rfl⟩) ?_
  rintro ob t ⟨rfl, rfl⟩
  have hnew : (s.heap.push { cls := .type "dict", data := .dict #[] }).DictOfH (nestedKind prog w) s.heap.objs.size [] := Heap.DictOfH.new s.heap
  have hty := keyed_apart nestedKind_stays ho
  have hn := ho.nodup
  obtain ⟨oo, es, ep, hg, hc, hd, he, hi, hnn⟩ := id ho
  have hlt := Heap.lt_size hg
  have ho' : (s.heap.push { cls := .type "dict", data := .dict #[] }).DictOfH (nestedKind prog w) o xs :=
    ⟨oo, es, ep, Heap.get?_push_of_some _ hg, hc, hd, he, fun x hx => nestedKind_stays.stays (fun b u _ _ q _ => Heap.get?_push_of_some _ q) (hi x hx), hnn⟩
  refine ⟨hnew.typeIs, F.args_dict_init_2 _ _, ?_⟩
  unfold Builtin.«dict.__init__» Builtin.Dict.selfAndRest
  refine wpAny_bind (wpAny_bind (wpAny_notOrdered_dict hnew.typeIs ?_))
  show wpAny _ _ (pure (s.heap.objs.size, [Value.ref o])) _ _ _
  refine wpAny_pure ?_
  show wpAny _ _ (Builtin.Dict.updateFrom "dict.__init__" s.heap.objs.size (.ref o) [] .none) _ _ _
  refine wpAny_mono (updateFrom_dictH (R := fun r s' => r = .ok (.ret .none) ∧ Q (.ref s.heap.objs.size) s') .none hu (Nat.ne_of_gt hlt) hoS hnew ho' (.inr ⟨fun x hx => ?_, hap⟩) (by simpa using hsz) fun h' h1 h2 h3 => ⟨rfl, ?_⟩) (fun fin s' z => ?_) fun e s' z => ?_
  · obtain ⟨u, hu1, hu2⟩ := hty x hx
    exact ⟨u, Heap.get?_push_of_some _ hu1, hu2⟩
  · rw [storedAllH_nil_of_nodup xs hn] at h1
    exact h h' h1 h3
  · cases fin with
    | done f => obtain ⟨z1, z2⟩ := z; cases z1; exact ⟨rfl, z2⟩
    | again c => exact ⟨z.1, codeAny_mono z.2 fun r s1 q => by obtain ⟨q1, q2⟩ := q; cases q1; exact ⟨rfl, q2⟩⟩
  · obtain ⟨z1, z2⟩ := z
    cases z1
end
mutual
/-- a key's hash, where no text is in it -/
def nh : NestedKey → Option Int
  | .none => some (reduceHash 0xFCA86420)
  | .num i => some (hashInt i)
  | .text _ => none
  | .tup ks => match nhs ks with
    | some hs => some (reduceHash (Builtin.Tuple.tupleHashOf hs))
    | none => none
def nhs : List NestedKey → Option (List Int)
  | [] => some []
  | k :: ks => match nh k, nhs ks with
    | some h, some hs => some (h :: hs)
    | _, _ => none
end
mutual
theorem nh_eq (w : World) : ∀ {k : NestedKey} {h : Int}, nh k = some h → NestedKey.hash w k = h
  | .none, h, e => by rw [nh] at e; cases e; rw [NestedKey.hash]
  | .num i, h, e => by rw [nh] at e; cases e; rw [NestedKey.hash]
  | .text x, h, e => by rw [nh] at e; cases e
  | .tup ks, h, e => by
    rw [nh] at e
    split at e
    · rename_i hs hh
      cases e
      rw [NestedKey.hash, nhs_eq w hh]
    · cases e
theorem nhs_eq (w : World) : ∀ {k : List NestedKey} {h : List Int}, nhs k = some h → NestedKey.hashes w k = h
  | [], h, e => by rw [nhs] at e; cases e; rw [NestedKey.hashes]
  | k :: ks, h, e => by
    rw [nhs] at e
    split at e
    · rename_i a b h1 h2
      cases e
      rw [NestedKey.hashes, nh_eq w h1, nhs_eq w h2]
    · cases e
end
/-- the keys' hashes -/
def hashesK : List D → Option (List Int)
  | [] => some []
  | k :: ks => match keyOf k with
    | some q => match nh q, hashesK ks with
      | some h, some hs => some (h :: hs)
      | _, _ => none
    | none => none
def apartK (ks : List D) : Bool := match hashesK ks with
  | some hs => decide hs.Nodup
  | none => false
theorem hashes_at {P : Program} (w : World) : ∀ {xs : List EN} {ks : List D} {hs : List Int}, ks.map keyOf = xs.map (fun x => some x.1) → hashesK ks = some hs → xs.map (fun x => (nestedKind P w).hash x.1) = hs
  | [], ks, hs, ke, e => by
    cases ks with
    | nil => rw [hashesK] at e; cases e; rfl
    | cons k ks => cases ke
  | x :: xs, ks, hs, ke, e => by
    cases ks with
    | nil => cases ke
    | cons k ks =>
      rw [List.map_cons, List.map_cons, List.cons.injEq] at ke
      rw [hashesK, ke.1] at e
      simp only at e
      split at e
      · rename_i a b h1 h2
        cases e
        rw [List.map_cons, hashes_at w ke.2 h2]
        have z : (nestedKind P w).hash x.1 = a := nh_eq w h1
        rw [z]
      · cases e
def dictD : D → Res D
  | .dic ks vs => if apartK ks = true then .ok (.dic ks vs) else .bad
  | _ => .bad
section
variable {X : Cx} {k : Nat}
theorem call_dictN (hr : Room k X.A) : CallR X (.type "dict") (fun xs H Q => ∃ (F : Hp) (p : Addr) (o : Obj) (es : List EN) (ws : List V) (ks vs : List D), xs = [.ref p] ∧ Same F H ∧ H p = some (.ext (isObj' p o)) ∧ (p == sysModules) = false ∧ DicO (gOf X) o es ∧ DR (gOf X) F es ws ks vs ∧ apartK ks = true ∧
    ∀ a o', H a = none → (a == sysModules) = false → DicO (gOf X) o' es → Q (.ref a) (upd H a (.ext (isObj' a o')))) := by
  intro pins s σ H xs us Q I r h
  obtain ⟨F, p, o, es, ws, ks, vs, rfl, sF, hp, hn, dd, dr, ha, q⟩ := h
  obtain ⟨u, rfl, rx⟩ := vals1 r
  cases rx
  have hap : (es.map fun x => (nestedKind X.prog X.w).hash x.1).Nodup := by
    unfold apartK at ha
    split at ha
    · rename_i hs hh
      rw [hashes_at X.w dr.ke hh]
      exact of_decide_eq_true ha
    · cases ha
  have hu := hr.un
  refine dictCopyH (show X.A.units + 1 + 1 + 8 < cLine by omega) hn (dr_of I sF hp dd dr) dd.sz hap fun h' hm hs => ?_
  have nm : (s.heap.objs.size == sysModules) = false := beq_eq_false_iff_ne.mpr (Ne.symm (Nat.ne_of_lt I.big))
  obtain ⟨o', e1, e2⟩ := dicO_of hm dd.sz
  exact ⟨.ref s.heap.objs.size, _, I.laid (t' := s.toks) (fun b u e => (hs.2 b (Nat.ne_of_lt (Heap.lt_size e))).trans (Heap.get?_push_of_some _ e)) (Nat.le_refl _) (ext_ok e1), rfl, q _ o' (I.hok.fresh (Nat.le_refl _)) nm e2⟩
theorem boot_dict' : bootBuiltins "dict" = some (.type "dict") := by decide +kernel
theorem b_dict (hr : Room k X.A) (hm : X.mg "dict" = none) : BlM X "dict" (.O .flat) (one dictD) := BlM.t hm boot_dict' (call_dictN hr) (ne_one (fun d e z => by unfold dictD at z; split at z <;> (try split at z) <;> cases z)) (cal_one fun F H x a d Q s ra e q => by
  unfold dictD at e
  split at e
  · split at e <;> cases e
    rename_i ha
    obtain ⟨p, o, xs, ws, rfl, h1, h2, h3, h4⟩ := RdD.dr s (show RdD (gOf X) F H x _ from ra)
    exact ⟨F, p, o, xs, ws, _, _, rfl, s, h1, h2, h3, h4, ha, fun t o' ht hn dd => q _ _ _ (Grow.own s ht) ⟨[t], Own.dr upd_same (s.free ht) hn dd h4, fun a ha => by rw [List.mem_singleton.mp ha]; exact ht⟩⟩
  · cases e)
end
/-- the keys in their order -/
def Itdk (d : Addr) (o : Obj) (xs : List EN) : It := ⟨fun i H => H d = some (.ext (isObj' d o)) ∧ i < xs.length, fun i H x H' => H' = H ∧ ∃ e, xs[i]? = some e ∧ x = .ref e.2.1, fun i H => H d = some (.ext (isObj' d o)) ∧ xs.length ≤ i⟩
theorem ent_at {K : Type} [DecidableEq K] {P : Program} {w : World} {knd : HeapKind P w K} {es : Array DictEntry} {xs : List (K × Addr × Value)} (he : es.toList = xs.map (entryOfKey knd)) {i : Nat} (hi : i < es.size) : ∃ e, xs[i]? = some e ∧ es[i].key = .ref e.2.1 ∧ es[i].val = e.2.2 := by
  have h1 := entry_at he i
  rw [Array.getElem?_eq_getElem hi] at h1
  cases hx : xs[i]? with
  | none => rw [hx] at h1; cases h1
  | some e =>
    rw [hx] at h1
    have h2 : es[i] = entryOfKey knd e := Option.some.inj h1
    exact ⟨e, rfl, by rw [h2]; rfl, by rw [h2]; rfl⟩
section
variable {P : Program} {w : World} {K : PySem.W.Frag} {tg : Expr} {d : Addr} {o : Obj} {es : Array DictEntry} {ep : Nat} {xs : List EN} {ws : List V}
theorem ext_raw {X : Cx} {pins : List (Addr × Obj)} {σ : L2.St} {H : Hp} {s : Shared} (I : L2.Inv X pins σ H s) (h : H d = some (.ext (isObj' d o))) (hx : o.ExactDict) (hd : o.data = .dict es ep) : s.heap.DictRaw d es ep := by
  obtain ⟨e, _⟩ := (show ObjOk X.prog X.w H s.heap d (.ext (isObj' d o)) from I.hok d _ h)
  exact ⟨o, e, hx, hd⟩
theorem turn_dk (it : Addr) (hx : o.ExactDict) (hod : o.data = .dict es ep) (he : es.toList = xs.map (entryOfKey (nestedKind P w))) : Turn P w K tg (Itdk d o xs) [it] it (fun i h => h.IsKeyIter it d i es.size ep) where
  mem := by simp
  obj := fun i h st b hb => by
    have e : b = it := by simpa using hb
    subst e
    obtain ⟨oi, e, c, dd⟩ := st
    exact ⟨oi, e, fun v z => by rw [dd] at z; cases z⟩
  keep := fun i h h' st k => st.at fun oi e => k it (by simp) oi e
  item := by
    intro X hP hw hK hc i pins s σ H E I hf st ⟨hd, hi⟩
    subst hP hw hK
    obtain ⟨f0, f1, f2, f3, f4, f5⟩ := hf it (by simp)
    have hsz := size_of_entries he
    have hi' : i < es.size := by rw [hsz]; exact hi
    obtain ⟨e, e1, e2, _⟩ := ent_at he hi'
    refine wpAny_pyNext_keys_item_raw st (ext_raw I hd hx hod) hi' fun h' st' sb => ?_
    have I1 : Inv X pins σ H { s with heap := h' } := I.turned (t' := s.toks) (fun b ob hb q => (sb.2 b hb).trans q) f0 f1 f3 f4 f5
    obtain ⟨oi, q, c, dd⟩ := id st'
    exact ⟨es[i].key, rfl, go_of (s := { s with heap := h' }) q c dd (by decide) ⟨.ref e.2.1, H, I1, e2, ⟨rfl, e, e1, rfl⟩, st', fun b hb => (hf b hb).1⟩⟩
  done := by
    intro X hP hw hK hc i pins s σ H E I hf st ⟨hd, hi⟩
    subst hP hw hK
    obtain ⟨f0, f1, f2, f3, f4, f5⟩ := hf it (by simp)
    have hsz := size_of_entries he
    exact wpAny_pyNext_keys_end_raw (I.ok.hd hc) st (ext_raw I hd hx hod) (by rw [hsz]; exact hi) fun h' eb => ⟨rfl, I.turned (t' := s.toks) (fun b ob hb e => eb b ob hb e) f0 f1 f3 f4 f5⟩
  self := fun A i s Q E st h => wpAny_pyIter_keyiter st h
end
/-- the dict is there -/
def iDk (X : Cx) (J : Addr → Obj → List EN → List V → It) (td : TE) : TI := fun σ H R => td σ H fun x H1 => ∃ (F : Hp) (d : Addr) (o : Obj) (xs : List EN) (ws : List V) (ks vs : List D), x = .ref d ∧ Same F H1 ∧ H1 d = some (.ext (isObj' d o)) ∧ (d == sysModules) = false ∧ DicO (gOf X) o xs ∧ DR (gOf X) F xs ws ks vs ∧ R (J d o xs ws) H1
section
variable {X : Cx} {W : Wi} {tg e : Expr} {td : TE} {fe : Env → Res D} {apos cpos : Pos}
theorem pi_dk (he : PE X e td) : PI X tg e (iDk X (fun d o xs _ => Itdk d o xs) td) := by
  refine ⟨fun pins s σ H R I h => thn (he.run pins s σ H _ I h) fun u s1 ⟨x, H1, I1, rx, F', d, o, xs, ws, ks, vs, ex, sF, hd, hn, dd, dr, q⟩ => ?_⟩
  subst ex
  obtain rfl : u = Value.ref d := rx
  obtain ⟨es, ep, h1, h2⟩ := dd.dat
  refine wpAny_pyIter_dict_raw hn (ext_raw I1 hd dd.ex h1) (pi_one (tk := s1.toks) I1 _ (turn_dk _ dd.ex h1 h2) ⟨_, Heap.get?_push_size _ rfl, rfl, rfl⟩ q)
theorem WalkD.dk {G : GC} {F F1 B : Hp} {d : Addr} {o : Obj} {xs : List EN} {ws : List V} {ks vs : List D} (h : B d = some (.ext (isObj' d o))) (dr : DR G F xs ws ks vs) : WalkD G F B (Itdk d o xs) ks := ⟨fun i H hi s => ⟨s _ _ h, by rw [dr.len]; exact hi⟩, fun H s => ⟨s _ _ h, by rw [dr.len]; exact Nat.le_refl _⟩, fun i F2 H2 x H3 hi s1 s2 s3 y => by
  obtain ⟨rfl, e, he, rfl⟩ := y
  obtain ⟨kd, h1, h2⟩ := dr.kr.getV (i := i) (v := .ref e.2.1) (by rw [List.getElem?_map, he]; rfl)
  exact ⟨F2, kd, Grow.refl s2, h1, h2.mono s1⟩⟩
/-- the pairs of a table -/
def pairsK (ks vs : List D) : List D := (ks.zip vs).map fun p => .tup [p.1, p.2]
def itemsD (d : D) : Res (List D) := match d with
  | .dic ks _ => .ok ks
  | d => itemsS d
@[simp] theorem itemsD_lst (xs : List D) : itemsD (.lst xs) = .ok xs := rfl
@[simp] theorem itemsD_tup (xs : List D) : itemsD (.tup xs) = .ok xs := rfl
@[simp] theorem itemsD_scr (xs : List Int) : itemsD (.scr xs) = .ok (xs.map D.int) := rfl
@[simp] theorem itemsD_str (z : Str) : itemsD (.str z) = .ok (signsOf z) := rfl
@[simp] theorem itemsD_dic (ks vs : List D) : itemsD (.dic ks vs) = .ok ks := rfl
theorem re_iter (he : RE X W .S e fe) : RI X W true tg e (fun r => fe r >>= itemsD) := by
  refine ⟨fun pins s σ H R I ⟨H0, F0, fp, F, r, m, o⟩ => ?_⟩
  have o : Out (gOf X) W σ F H _ (fe r >>= itemsD) := o
  cases ef : fe r with
  | er x => exact (re_iterS he).run pins s σ H R I ⟨H0, F0, fp, F, r, m, by show Out _ _ _ _ _ _ (fe r >>= itemsS); rw [ef] at o ⊢; exact o⟩
  | bad => rw [ef] at o; exact o.elim
  | ok d =>
    rw [ef] at o
    have o0 : itemsD d = itemsS d → Out (gOf X) W σ F H _ (fe r >>= itemsS) := fun z => by
      rw [ef]
      have o1 : Out (gOf X) W σ F H _ (itemsD d) := o
      rw [z] at o1
      exact o1
    cases d with
    | dic ks vs => exact (pi_dk he).run pins s σ H R I ⟨H0, F0, fp, F, r, m, by
        rw [ef]
        intro F' H' gr v kv
        have kv' : Rep (gOf X) F' v (.dic ks vs) := kv
        cases kv' with
        | dic h1 z1 z2 z3 z4 z5 z6 => exact ⟨F', _, _, _, _, ks, vs, rfl, gr.sub, gr.sub _ _ h1, z1, z2, ⟨z3, z4, z5, z6⟩, o F' H' gr _ (WalkD.dk (F1 := F') h1 ⟨z3, z4, z5, z6⟩)⟩⟩
    | _ => exact (re_iterS he).run pins s σ H R I ⟨H0, F0, fp, F, r, m, o0 rfl⟩
def valsD (d : D) : Res (List D) := match d with
  | .dic _ vs => .ok vs
  | _ => .bad
def pairsD (d : D) : Res (List D) := match d with
  | .dic ks vs => .ok (pairsK ks vs)
  | _ => .bad
@[simp] theorem valsD_dic (ks vs : List D) : valsD (.dic ks vs) = .ok vs := rfl
@[simp] theorem pairsD_dic (ks vs : List D) : pairsD (.dic ks vs) = .ok (pairsK ks vs) := rfl
end
end Mir
namespace Mir
open PySem PySem.Spec PyProof.Rows L2
variable [Tn]
section
variable {G : GC} {F H : Hp}
theorem OwnAll.setAt {f : Nat → Shape} {d' : D} : ∀ {n0 : Nat} {ws : List V} {vs : List D} {A : List Addr}, OwnAll G F H f n0 ws vs A → ∀ (n : Nat) {d : D}, vs[n]? = some d → ∃ w B, ws[n]? = some w ∧ Own G F H (f (n0 + n)) w d B ∧ (∀ b ∈ B, b ∈ A) ∧
      ∀ a o, a ∈ B → Own G F (upd H a o) (f (n0 + n)) w d' B → OwnAll G F (upd H a o) f n0 ws (vs.set n d') A
  | _, _, _, _, .nil, n, d, h => by simp at h
  | n0, _, _, _, .cons (A := A) (B := B) r t x, 0, d, h => by
    simp at h
    subst h
    exact ⟨_, A, rfl, r, fun b hb => List.mem_append_left _ hb, fun a o ha r' => .cons r' (t.keep (Keep.upd (x a ha))) x⟩
  | n0, _, _, _, .cons (A := A) (B := B) r t x, n + 1, d, h => by
    obtain ⟨w, C, h1, h2, h3, h4⟩ := OwnAll.setAt t n (d := d) (by simpa using h)
    rw [show n0 + 1 + n = n0 + (n + 1) by omega] at h2 h4
    refine ⟨w, C, by simpa using h1, h2, fun b hb => List.mem_append_right _ (h3 b hb), fun a o ha r' => ?_⟩
    rw [List.set_cons_succ]
    exact .cons (r.keep (Keep.upd fun z => x a z (h3 a ha))) (h4 a o ha r') x
end
def Shape.isFlat : Shape → Bool
  | .flat => true
  | _ => false
theorem Shape.flat_of {s : Shape} (h : s.isFlat = true) : s = .flat := by cases s <;> first | rfl | cases h
def setFI (i c n : Nat) (fv fi : Env → Res D) (r : Env) : Oc := lift (fv r) r fun v => match r[i]? with
  | some (.ow s (.obj c' vs)) => if c' = c ∧ (s.kid n).isFlat = true then (match vs[n]? with
    | some (.dic ks us) => lift (fi r) r fun kx => match keyT kx with
      | some q => if ks.length < lim then .nx (r.set i (.ow s (.obj c (vs.set n (.dic (setK ks us kx q v).1 (setK ks us kx q v).2))))) else .bad
      | none => .bad
    | _ => .bad) else .bad
  | _ => .bad
section
variable {X : Cx} {W : Wi} {k : Nat} {kk : Kd} {e iv : Expr} {fe fi : Env → Res D} {pos ps p2 p3 : Pos} {x f : Str}
theorem rs_fldItem (i c n : Nat) (M : ClM X.K (gOf X).ca f c) (hr : Room k X.A) (he : RE X W .S e fe) (hi : RE X W .R iv fi) (hn : (cflds c)[n]? = some f := by rfl) (hN : X.N[i]? = some x := by rfl) (hv : Vis X.env.scope x := by first | exact Or.inl rfl | exact Or.inr (Or.inl rfl) | exact Or.inr (Or.inr rfl)) (hd : (x == ("__debug__" : Str)) = false := by decide)
    (hcd : (x == ("__classdict__" : Str)) = false := by decide) (hb : attributeBase (.Name x ps) f X.env (eval (.Name x ps) X.env) = eval (.Name x ps) X.env := by rfl) (ha : ∀ v, assign (.Subscript (.Attribute (.Name x ps) f p3) iv p2) X.env v = (do
      let ov ← holding [v] (eval (.Attribute (.Name x ps) f p3) X.env)
      let iv ← holding [v, ov] (eval iv X.env)
      standAt p2
      holding [v, ov, iv] (setItem ov iv v)
      release [v, ov, iv] []) := by intro _; rfl)
    (hs : swapsWithSole [.Subscript (.Attribute (.Name x ps) f p3) iv p2] e pos.line X.env = pure false := by rfl) (hw : swappedStores [.Subscript (.Attribute (.Name x ps) f p3) iv p2] e X.env = pure none := by rfl) (h1 : (assignEach [.Subscript (.Attribute (.Name x ps) f p3) iv p2] X.env).map (·.2) = [assign (.Subscript (.Attribute (.Name x ps) f p3) iv p2) X.env] := by rfl) :
    RS X W kk (.Assign [.Subscript (.Attribute (.Name x ps) f p3) iv p2] e pos) (setFI i c n fe fi) :=
  (ps_asg he (pg_sub (pe_fld (pe_var hN hv hd hcd) hb) hi (set_dic hr) ha) hs hw h1).imp fun D σ H ⟨H0, F0, fp, F, r, m, o⟩ => ⟨H0, F0, fp, F, r, m, OutS.lift m o fun F' H' d gr o' v kv => by
    split at o'
    · rename_i s c' vs hi
      split at o'
      · rename_i hc
        obtain ⟨rfl, hfl⟩ := hc
        have hfl := Shape.flat_of hfl
        split at o'
        · rename_i ks us hvs
          have m' := m.grow gr
          obtain ⟨⟨w, hw, ow⟩, hA⟩ := m'.ow i _ _ hi
          have hfp : fp i = fp i := rfl
          generalize hAA : fp i = A at ow hA
          cases ow with
          | sh _ => cases hfl
          | @obj _ a dx _ ws _ A' so ha fa hz oa na =>
            obtain ⟨w2, B, b1, b2, b3, b4⟩ := oa.setAt (d' := .dic [] []) n hvs
            rw [Nat.zero_add, hfl] at b2
            cases b2 with
            | @dic _ p ob xs wz _ _ _ h0 e2 f2 z1 z2 z3 z4 z5 ra nb =>
              obtain ⟨rfl, rr⟩ := ra.to_rep
              refine ⟨.ref a, hw, a, (gOf X).ca c', dx, _, .ref p, rfl, ha, M.cl, M.no, lookup_zip M.nd hn b1, H0, F0, fp, F', r, m', OutS.lift m' o' fun F2 H2 n2 g2 o2 u ku => ?_⟩
              split at o2
              · rename_i q hq
                split at o2
                · rename_i hl
                  obtain ⟨b, rfl, rb⟩ := key_ref (show RdD (gOf X) F2 H2 u _ from ku) hq
                  have dr : DR (gOf X) F2 xs wz ks us := (DR.mk z3 z4 z5 rr).mono g2.f
                  refine ⟨F2, p, b, ob, xs, wz, ks, us, n2, q, rfl, rfl, g2.sub, g2.h.at _ _ e2, z1, z2, dr, rb, hq, by rw [dr.len]; exact Nat.le_of_lt hl, fun p' b' ob' uu ep eb ru dd' => ?_⟩
                  cases ep
                  cases eb
                  obtain ⟨wz', dr'⟩ := dr.set ru rb (keyT_some hq).2.1 (Mir.Rep.mono g2.f kv)
                  have m2 := m'.grow g2
                  obtain ⟨⟨w', hw', ow'⟩, _⟩ := m2.ow i _ _ hi
                  rw [hw] at hw'
                  cases hw'
                  rw [hAA] at ow'
                  have oa2 : OwnAll (gOf X) F2 H2 s.kid 0 ws vs A' := oa.keep (g2.keep (fun y hy => (oa.there y hy).2) oa.nt)
                  obtain ⟨w3, B3, c1, c2, c3, c4⟩ := oa2.setAt (d' := .dic (setK ks us n2 q d).1 (setK ks us n2 q d).2) n hvs
                  rw [b1] at c1
                  cases c1
                  rw [Nat.zero_add, hfl] at c2 c4
                  have fp0 : F2 p = none := by
                    cases c2 with
                    | dic _ _ y _ _ _ _ _ _ _ => exact y
                  have eB : B3 = [p] := by
                    cases c2 with
                    | dic _ _ _ _ _ _ _ _ rb2 _ => obtain ⟨rfl, _⟩ := rb2.to_rep; rfl
                  subst eB
                  have oo := c4 p (.ext (isObj' p ob')) (by simp) (Own.dr upd_same fp0 z1 dd' dr')
                  have pA : p ∈ A' := c3 p (by simp)
                  have hap : a ≠ p := fun z => na (z ▸ pA)
                  obtain ⟨fp', m3⟩ := m2.write hi hw (by rw [hAA]; exact List.mem_cons_of_mem _ pA) (Own.obj (dx := dx) so (by rw [upd_ne hap]; exact g2.h.at _ _ ha) (by
                    cases zz : F2 a with
                    | none => rfl
                    | some u2 =>
                      rcases g2.new a u2 zz with y | y
                      · rw [fa] at y; cases y
                      · rw [ha] at y; cases y) hz oo na) fun y hy => .inl (by rw [hAA]; exact hy)
                  exact o2 fp' F2 σ _ (Same.refl _) m3
                · exact o2.elim
              · exact o2.elim
        · exact o'.elim
      · exact o'.elim
    · exact o'.elim⟩
end
end Mir
namespace Mir
open PySem PySem.Spec PyProof.Rows L2
variable [Tn]
theorem okQ_dic {n : Nat} {ks vs : List D} : okQ n (.dic ks vs) = false := by cases n <;> rfl
theorem eqD_S {a b : D} (h : ∀ ks vs, a ≠ .dic ks vs) : eqD a b = eqS a b := by
  unfold eqD
  split
  · exact absurd rfl (h _ _)
  · rfl
theorem eqD_ok {a b : D} (ha : okQ 64 a = true) (hb : okQ 64 b = true) : eqD a b = .ok (.bl (eqQ a b)) := by
  rw [eqD_S (fun ks vs e => by subst e; rw [okQ_dic] at ha; cases ha)]
  exact eqS_ok ha hb
@[simp] theorem eqD_int (i j : Int) : eqD (.int i) (.int j) = .ok (.bl (decide (i = j))) := eqS_int i j
@[simp] theorem neD_int (i j : Int) : neD (.int i) (.int j) = .ok (.bl (!decide (i = j))) := neS_int i j
@[simp] theorem ixD_lst (xs : List D) (i : Int) : ixD (.lst xs) (.int i) = match atI xs i with
    | some d => .ok d
    | none => .bad := rfl
@[simp] theorem ixD_tup (xs : List D) (i : Int) : ixD (.tup xs) (.int i) = match atI xs i with
    | some d => .ok d
    | none => .bad := rfl
@[simp] theorem ixD_scr (ns : List Int) (i : Int) : ixD (.scr ns) (.int i) = match atI ns i with
    | some n => .ok (.int n)
    | none => .bad := rfl
theorem atI_nat {α : Type} (xs : List α) (i : Nat) (h : i < xs.length) : atI xs (i : Int) = xs[i]? := by
  unfold atI ixN
  rw [if_pos (Int.natCast_nonneg i), if_pos (by omega)]
  rfl
theorem atI_int {α : Type} (xs : List α) (i : Int) (h0 : 0 ≤ i) (h : i < xs.length) : atI xs i = xs[i.toNat]? := by
  have e : i = ((i.toNat : Nat) : Int) := by omega
  rw [e, atI_nat xs i.toNat (by omega)]
  rfl
theorem ixD_last (f : List Int) (a : Int) : ixD (.lst (f.map D.int ++ [.int a])) (.int (-1)) = .ok (.int a) := by
  have z : atI (f.map D.int ++ [D.int a]) (-1) = some (.int a) := by
    unfold atI ixN
    have hl : (f.map D.int ++ [D.int a]).length = f.length + 1 := by simp
    rw [hl, if_neg (by omega), if_pos (by omega)]
    show (f.map D.int ++ [D.int a])[((-1 : Int) + ((f.length + 1 : Nat) : Int)).toNat]? = _
    have e : ((-1 : Int) + ((f.length + 1 : Nat) : Int)).toNat = f.length := by omega
    rw [e, List.getElem?_append_right (by simp)]
    simp
  rw [ixD_lst, z]
theorem atI_getD {ns : List Int} {i : Int} (h0 : 0 ≤ i) (h1 : i < ns.length) : atI ns i = some (ns.getD i.toNat 0) := by
  rw [atI_int ns i h0 h1, List.getD_eq_getElem?_getD, List.getElem?_eq_getElem (by omega)]
  rfl
@[simp] theorem bits0 : bits 0 = 0 := rfl
theorem bits_lt {i : Int} {n : Nat} (hn : 0 < n) (h : i.natAbs < 2 ^ n) : bits i < n := by
  unfold bits
  by_cases h0 : i.natAbs = 0
  · rw [h0]; simpa using hn
  · exact (Nat.log2_lt h0).mpr h
theorem lcD_gmap {α : Type} {g : D → Env → Res Env} {t : Env → Res Bool} {f : Env → Res D} {r : Env} (A : α → D) (F : α → D) : ∀ {xs : List α}, (∀ a ∈ xs, ∃ r1, g (A a) r = .ok r1 ∧ t r1 = .ok true ∧ f r1 = .ok (F a)) → lcD g t f r (xs.map A) = .ok (xs.map F)
  | [], _ => rfl
  | a :: xs, h => by
    obtain ⟨r1, h1, h2, h3⟩ := h a List.mem_cons_self
    rw [List.map_cons, lcD, h1]
    simp only [nE_ok, ok_bind, h2, if_true, h3, lcD_gmap A F fun d hd => h d (List.mem_cons_of_mem _ hd)]
    rfl
/-- one name, over anything -/
theorem lcD_one {α : Type} {t : Env → Res Bool} {f : Env → Res D} {r : Env} {i : Nat} (A : α → D) (F : α → D) {xs : List α} (h : ∀ a ∈ xs, t (r.set i (.sh (A a))) = .ok true ∧ f (r.set i (.sh (A a))) = .ok (F a)) : lcD (nameG i) t f r (xs.map A) = .ok (xs.map F) :=
  lcD_gmap A F fun a ha => ⟨_, rfl, h a ha⟩
theorem rangeL_nat (n : Nat) : rangeL 0 n = (List.range n).map fun i : Nat => D.int i := by
  unfold rangeL
  exact List.map_congr_left fun i _ => by rw [Int.zero_add]
theorem lcD_range {t : Env → Res Bool} {f : Env → Res D} {r : Env} {i : Nat} (F : Nat → D) {n : Nat} (h : ∀ k, k < n → t (r.set i (.sh (.int (k : Nat)))) = .ok true ∧ f (r.set i (.sh (.int (k : Nat)))) = .ok (F k)) : lcD (nameG i) t f r (rangeL 0 n) = .ok ((List.range n).map F) := by
  rw [rangeL_nat]
  exact lcD_one (fun k : Nat => D.int k) F fun k hk => h k (List.mem_range.mp hk)
/-- a walk that gives up at the first of its kind -/
theorem forD_any {f : D → Env → Oc} (P : Env → Prop) (b : D → Bool) (v : D) : ∀ {ds : List D} {r : Env}, (∀ d ∈ ds, ∀ r, P r → if b d = true then f d r = .rt v else ∃ r', f d r = .nx r' ∧ P r') → P r → if ds.any b = true then forD f ds r = .rt v else ∃ r', forD f ds r = .nx r' ∧ P r'
  | [], r, _, hp => by simpa using hp
  | d :: ds, r, h, hp => by
    have h1 := h d List.mem_cons_self r hp
    rw [List.any_cons]
    cases hb : b d with
    | true =>
      rw [hb, if_pos rfl] at h1
      rw [Bool.true_or, if_pos rfl, forD_cons, h1]
    | false =>
      rw [hb, if_neg (by simp)] at h1
      obtain ⟨r1, e, p1⟩ := h1
      rw [Bool.false_or, forD_cons, e]
      exact forD_any P b v (fun x hx => h x (List.mem_cons_of_mem _ hx)) p1
@[simp] theorem atI0 {α : Type} (a : α) (xs : List α) : atI (a :: xs) 0 = some a := by
  rw [show (0 : Int) = ((0 : Nat) : Int) from rfl, atI_nat _ _ (by simp)]
  rfl
@[simp] theorem atI1 {α : Type} (a b : α) (xs : List α) : atI (a :: b :: xs) 1 = some b := by
  rw [show (1 : Int) = ((1 : Nat) : Int) from rfl, atI_nat _ _ (by simp)]
  rfl
@[simp] theorem atI2 {α : Type} (a b c : α) (xs : List α) : atI (a :: b :: c :: xs) 2 = some c := by
  rw [show (2 : Int) = ((2 : Nat) : Int) from rfl, atI_nat _ _ (by simp)]
  rfl
@[simp] theorem addD_tup (xs ys : List D) : addD (.tup xs) (.tup ys) = if xs.length + ys.length ≤ lim then .ok (.tup (xs ++ ys)) else .bad := rfl
@[simp] theorem addD_lst (xs ys : List D) : addD (.lst xs) (.lst ys) = if xs.length + ys.length ≤ lim then .ok (.lst (xs ++ ys)) else .bad := rfl
@[simp] theorem sliceD_tup (xs : List D) (lo hi : Option Int) : sliceD (.tup xs) lo hi = .ok (.tup (cutD xs lo hi)) := rfl
@[simp] theorem sliceD_lst (xs : List D) (lo hi : Option Int) : sliceD (.lst xs) lo hi = .ok (.lst (cutD xs lo hi)) := rfl
/-- names that one owns are shared ahead of a statement -/
def frzAt (i : Nat) (g : Env → Oc) (r : Env) : Oc := g (freeze i r)
@[simp] theorem frzAt_eq (i : Nat) (g : Env → Oc) (r : Env) : frzAt i g r = g (freeze i r) := rfl
theorem rs_frz (i : Nat) {X : Cx} {W : Wi} {k : Kd} {s : Stmt} {g : Env → Oc} (h : RS X W k s g) : RS X W k s (fun r => frzAt i g r) := rs_freeze i h
end Mir
namespace Mir
open PySem PySem.Spec PyProof.Rows L2
variable [Tn]
def kI (x : List Int) : NestedKey := .tup (x.map .num)
theorem keysOf_ints : ∀ x : List Int, keyOf.keysOf (x.map D.int) = some (x.map .num)
  | [] => by simp [keyOf.keysOf]
  | i :: x => by rw [List.map_cons, keyOf.keysOf, keysOf_ints x]; simp [keyOf]
theorem keyOf_tuI (x : List Int) : keyOf (tuI x) = some (kI x) := by
  show (keyOf.keysOf (x.map D.int)).map NestedKey.tup = _
  rw [keysOf_ints]
  rfl
theorem depth_nums : ∀ x : List Int, NestedKey.depthAll (x.map NestedKey.num) = 0
  | [] => by simp [NestedKey.depthAll]
  | i :: x => by rw [List.map_cons, NestedKey.depthAll, depth_nums x]; simp [NestedKey.depth]
theorem depth_kI (x : List Int) : (kI x).depth = 1 := by
  unfold kI
  rw [NestedKey.depth, depth_nums]
theorem kI_inj {x y : List Int} (h : kI x = kI y) : x = y := by
  unfold kI at h
  injection h with h
  have z : ∀ x y : List Int, x.map NestedKey.num = y.map NestedKey.num → x = y := fun x => by
    induction x with
    | nil => intro y h; cases y with
      | nil => rfl
      | cons a b => cases h
    | cons a x ih =>
      intro y h
      cases y with
      | nil => cases h
      | cons b y =>
        rw [List.map_cons, List.map_cons] at h
        injection h with h1 h2
        injection h1 with h1
        rw [h1, ih y h2]
  exact z x y h
/-- data as keys -/
structure KeyE {α : Type} (E : α → D) (Q : α → NestedKey) : Prop where
  t : ∀ a, keyT (E a) = some (Q a)
  inj : ∀ a b, Q a = Q b → a = b
theorem KeyE.of {α : Type} {E : α → D} {Q : α → NestedKey} (K : KeyE E Q) (a : α) : keyOf (E a) = some (Q a) := (keyT_some (K.t a)).2.1
abbrev pkD (p : List Int × List Int) : D := .tup [tuI p.1, tuI p.2]
def kP (p : List Int × List Int) : NestedKey := .tup [kI p.1, kI p.2]
theorem keyP : KeyE pkD kP := ⟨fun p => by
  have e : keyOf (pkD p) = some (kP p) := by
    show (keyOf.keysOf [tuI p.1, tuI p.2]).map NestedKey.tup = _
    rw [keyOf.keysOf, keyOf_tuI, keyOf.keysOf, keyOf_tuI, keyOf.keysOf]
    rfl
  have d : (kP p).depth = 2 := by
    unfold kP
    rw [NestedKey.depth, NestedKey.depthAll, NestedKey.depthAll, NestedKey.depthAll, depth_kI, depth_kI]
    rfl
  unfold keyT
  simp only [e, d]
  rfl, fun p q h => by
  unfold kP at h
  injection h with h
  injection h with h1 h
  injection h with h2 _
  exact Prod.ext (kI_inj h1) (kI_inj h2)⟩
section
variable {α β : Type} [DecidableEq α]
def lookA (l : List (α × β)) (a : α) : Option β := (l.find? fun p => decide (p.1 = a)).map (·.2)
def hasA (l : List (α × β)) (a : α) : Bool := l.any fun p => decide (p.1 = a)
def setA (l : List (α × β)) (a : α) (b : β) : List (α × β) := if hasA l a = true then l.map (fun p => if p.1 = a then (p.1, b) else p) else l ++ [(a, b)]
def dicA (E : α → D) (V : β → D) (l : List (α × β)) : D := .dic (l.map fun p => E p.1) (l.map fun p => V p.2)
variable {E : α → D} {V : β → D} {Q : α → NestedKey}
theorem getK_A (K : KeyE E Q) (a : α) : ∀ l : List (α × β), getK (l.map fun p => E p.1) (l.map fun p => V p.2) (Q a) = (lookA l a).map V
  | [] => by simp [getK, lookA]
  | p :: l => by
    rw [List.map_cons, List.map_cons, getK, K.of]
    unfold lookA
    rw [List.find?_cons]
    by_cases h : p.1 = a
    · rw [if_pos (by rw [h]), decide_eq_true h]
      rfl
    · rw [if_neg (fun z => h (K.inj _ _ (Option.some.inj z))), decide_eq_false h, getK_A K a l]
      rfl
theorem hasK_A (K : KeyE E Q) (a : α) (l : List (α × β)) : hasK (l.map fun p => E p.1) (Q a) = hasA l a := by
  unfold hasK hasA
  rw [List.any_map]
  congr 1
  funext p
  simp only [Function.comp, K.of]
  by_cases h : p.1 = a
  · rw [decide_eq_true h, decide_eq_true (by rw [h])]
  · rw [decide_eq_false h, decide_eq_false (fun z => h (K.inj _ _ (Option.some.inj z)))]
theorem repK_A (K : KeyE E Q) (a : α) (b : β) : ∀ l : List (α × β), repK (l.map fun p => E p.1) (l.map fun p => V p.2) (Q a) (V b) = (l.map fun p => if p.1 = a then (p.1, b) else p).map fun p => V p.2
  | [] => by simp [repK]
  | p :: l => by
    rw [List.map_cons, List.map_cons, repK, K.of, repK_A K a b l, List.map_cons, List.map_cons]
    congr 1
    by_cases h : p.1 = a
    · rw [if_pos (by rw [h]), if_pos h]
    · rw [if_neg (fun z => h (K.inj _ _ (Option.some.inj z))), if_neg h]
theorem setK_A (K : KeyE E Q) (a : α) (b : β) (l : List (α × β)) : setK (l.map fun p => E p.1) (l.map fun p => V p.2) (E a) (Q a) (V b) = ((setA l a b).map fun p => E p.1, (setA l a b).map fun p => V p.2) := by
  unfold setK setA
  rw [hasK_A K]
  by_cases h : hasA l a = true
  · rw [if_pos h, if_pos h, repK_A K]
    have e : (l.map fun p => E p.1) = (l.map fun p => if p.1 = a then (p.1, b) else p).map fun p => E p.1 := by
      rw [List.map_map]
      refine List.map_congr_left fun p _ => ?_
      show E p.1 = E (if p.1 = a then (p.1, b) else p).1
      split <;> rfl
    rw [← e]
  · rw [if_neg h, if_neg h, List.map_append, List.map_append]
    rfl
theorem ixD_A (K : KeyE E Q) (l : List (α × β)) (a : α) {b : β} (h : lookA l a = some b) : ixD (dicA E V l) (E a) = .ok (V b) := by
  unfold ixD dicA
  simp only [K.t, getK_A K, h]
  rfl
theorem notInD_A (K : KeyE E Q) (l : List (α × β)) (a : α) : notInD (E a) (dicA E V l) = .ok (.bl (!hasA l a)) := by
  unfold notInD dicA
  simp only [K.t, hasK_A K]
theorem setD_A (K : KeyE E Q) (l : List (α × β)) (a : α) (b : β) (hl : l.length < lim) : setD (dicA E V l) (E a) (V b) = .ok (dicA E V (setA l a b)) := by
  unfold setD dicA
  simp only [K.t, List.length_map, hl, if_true, setK_A K]
theorem setK_A' (K : KeyE E Q) (l : List (α × β)) (a : α) (b : β) : D.dic (setK (l.map fun p => E p.1) (l.map fun p => V p.2) (E a) (Q a) (V b)).1 (setK (l.map fun p => E p.1) (l.map fun p => V p.2) (E a) (Q a) (V b)).2 = dicA E V (setA l a b) := by
  rw [setK_A K]
  rfl
@[simp] theorem lenD_A (l : List (α × β)) : lenD (dicA E V l) = .ok (.int l.length) := by
  show Res.ok (D.int ((l.map fun p => E p.1).length : Nat)) = _
  rw [List.length_map]
@[simp] theorem itemsD_A (l : List (α × β)) : itemsD (dicA E V l) = .ok (l.map fun p => E p.1) := rfl
theorem setA_new {l : List (α × β)} {a : α} (b : β) (h : a ∉ l.map (·.1)) : setA l a b = l ++ [(a, b)] := by
  unfold setA
  rw [if_neg]
  unfold hasA
  rw [List.any_eq_true]
  rintro ⟨p, hp, e⟩
  exact h (List.mem_map.mpr ⟨p, hp, of_decide_eq_true e⟩)
theorem lookA_mem {l : List (α × β)} {a : α} {b : β} (hn : (l.map (·.1)).Nodup) (h : (a, b) ∈ l) : lookA l a = some b := by
  induction l with
  | nil => cases h
  | cons p l ih =>
    rw [List.map_cons, List.nodup_cons] at hn
    unfold lookA
    rw [List.find?_cons]
    rcases List.mem_cons.mp h with z | z
    · subst z
      rw [decide_eq_true rfl]
      rfl
    · have ne : p.1 ≠ a := fun e => hn.1 (by rw [e]; exact List.mem_map.mpr ⟨_, z, rfl⟩)
      rw [decide_eq_false ne]
      exact ih hn.2 z
theorem lookA_map {l : List α} (f : α → β) {a : α} (h : a ∈ l) : lookA (l.map fun x => (x, f x)) a = some (f a) := by
  induction l with
  | nil => cases h
  | cons x l ih =>
    unfold lookA
    rw [List.map_cons, List.find?_cons]
    by_cases e : x = a
    · subst e
      rw [decide_eq_true rfl]
      rfl
    · rw [decide_eq_false (by simpa using e)]
      rcases List.mem_cons.mp h with z | z
      · exact (e z.symm).elim
      · exact ih z
theorem hasA_map (l : List α) (f : α → β) (a : α) : hasA (l.map fun x => (x, f x)) a = decide (a ∈ l) := by
  unfold hasA
  rw [List.any_map, Bool.eq_iff_iff, List.any_eq_true, decide_eq_true_iff]
  constructor
  · rintro ⟨x, hx, e⟩
    have e' : x = a := of_decide_eq_true e
    rw [← e']
    exact hx
  · intro h
    exact ⟨a, h, decide_eq_true rfl⟩
/-- a table told by a function on a row of keys -/
abbrev dicF (E : α → D) (V : β → D) (l : List α) (f : α → β) : D := dicA E V (l.map fun x => (x, f x))
end
/-- two tables with the same row of keys, whose values are rows of whole numbers -/
theorem sameK_A {α : Type} [DecidableEq α] {E : α → D} {Q : α → NestedKey} (K : KeyE E Q) (m : List (α × List Int)) : ∀ l : List (α × List Int), sameK (l.map fun p => E p.1) (l.map fun p => tuI p.2) (m.map fun p => E p.1) (m.map fun p => tuI p.2) = some (l.all fun p => decide (lookA m p.1 = some p.2))
  | [] => by simp [sameK]
  | p :: l => by
    have ih := sameK_A K m l
    rw [List.map_cons, List.map_cons, sameK, K.of, List.all_cons]
    simp only [getK_A K (V := tuI)]
    cases h : lookA m p.1 with
    | none => simp
    | some x =>
      have e : eqS (tuI p.2) (tuI x) = .ok (.bl (decide (p.2 = x))) := by
        rw [eqS_ok (by simp) (by simp), eqQ, eqQs_ints]
      simp only [Option.map_some, e]
      by_cases hx : p.2 = x
      · rw [decide_eq_true hx, ih, hx]
        simp
      · rw [decide_eq_false hx]
        have : ¬ x = p.2 := fun z => hx z.symm
        simp [this]
theorem eqD_A {α : Type} [DecidableEq α] {E : α → D} {Q : α → NestedKey} (K : KeyE E Q) (l m : List (α × List Int)) : eqD (dicA E tuI l) (dicA E tuI m) = .ok (.bl (decide (l.length = m.length) && l.all fun p => decide (lookA m p.1 = some p.2))) := by
  unfold eqD dicA sameD
  simp only [List.length_map, sameK_A K]
  by_cases h : l.length = m.length
  · rw [if_pos h, decide_eq_true h, Bool.true_and]
  · rw [if_neg h, decide_eq_false h, Bool.false_and]
theorem eqD_F {α : Type} [DecidableEq α] {E : α → D} {Q : α → NestedKey} (K : KeyE E Q) (l : List α) (f g : α → List Int) : eqD (dicF E tuI l f) (dicF E tuI l g) = .ok (.bl (decide (∀ a ∈ l, f a = g a))) := by
  rw [eqD_A K]
  congr 2
  simp only [List.length_map, decide_true, Bool.true_and]
  rw [List.all_map, Bool.eq_iff_iff, List.all_eq_true, decide_eq_true_iff]
  constructor
  · intro h a ha
    have := h a ha
    simp only [Function.comp, lookA_map g ha, decide_eq_true_iff, Option.some.injEq] at this
    exact this.symm
  · intro h a ha
    simp only [Function.comp, lookA_map g ha, decide_eq_true_iff, Option.some.injEq]
    exact (h a ha).symm
def memsStep (found : List (List Int)) (n : Int) : List (List Int) := found.flatMap fun x => (List.range n.toNat).map fun i : Nat => x ++ [(i : Int)]
def mems (rs : List Int) : List (List Int) := rs.foldl memsStep [[]]
def prs (rs : List Int) : List (List Int × List Int) := (mems rs).flatMap fun x => (mems rs).map fun y => (x, y)
theorem mem_prs {rs x y : List Int} : (x, y) ∈ prs rs ↔ x ∈ mems rs ∧ y ∈ mems rs := by
  unfold prs
  rw [List.mem_flatMap]
  constructor
  · rintro ⟨a, ha, h⟩
    obtain ⟨b, hb, e⟩ := List.mem_map.mp h
    injection e with e1 e2
    subst e1 e2
    exact ⟨ha, hb⟩
  · rintro ⟨h1, h2⟩
    exact ⟨x, h1, List.mem_map.mpr ⟨y, h2, rfl⟩⟩
end Mir
namespace Mir
open PySem PySem.Spec PyProof.Rows L2
variable [Tn]
/-- a group by rounds -/
abbrev gR (rs : List Int) : D := .obj 0 [tuI rs]
/-- rounds that make a group -/
structure OkR (rs : List Int) : Prop where
  two : ∀ n ∈ rs, 2 ≤ n
  len : rs.length ≤ 7
structure OkE (rs x : List Int) : Prop where
  len : x.length = rs.length
  at_ : ∀ p ∈ x.zip rs, 0 ≤ p.1 ∧ p.1 < p.2
theorem fld_rounds (rs : List Int) : fldD (plOf [0] "rounds") (gR rs) = .ok (tuI rs) := by
  have e : plOf [0] "rounds" 0 = some 0 := by kernel_rfl
  unfold fldD
  simp [e]
theorem is_tuple (cs us : List Nat) (xs : List D) : isD cs us (.tup xs) (.ty "tuple") = .ok (.bl true) := rfl
theorem mem_zip2 {xs ys : List Int} {d : D} (h : d ∈ zipL2 (xs.map D.int) (ys.map D.int)) : ∃ p ∈ xs.zip ys, d = .tup [.int p.1, .int p.2] := by
  unfold zipL2 at h
  rw [List.zip_map, List.map_map] at h
  obtain ⟨p, hp, e⟩ := List.mem_map.mp h
  exact ⟨p, hp, e.symm⟩
/-- the sum by rounds -/
def putV (rs x y : List Int) : List Int := (x.zip (y.zip rs)).map fun p => (p.1 + p.2.1) % p.2.2
def zeroV (rs : List Int) : List Int := rs.map fun _ => 0
theorem putV_len {rs x y : List Int} (h1 : x.length = rs.length) (h2 : y.length = rs.length) : (putV rs x y).length = rs.length := by simp [putV, h1, h2]
theorem put_el {rs x y : List Int} (h : OkR rs) (h1 : x.length = rs.length) (h2 : y.length = rs.length) : OkE rs (putV rs x y) := by
  refine ⟨putV_len h1 h2, fun p hp => ?_⟩
  obtain ⟨i, hi⟩ := List.getElem?_of_mem hp
  obtain ⟨g1, g2⟩ := List.getElem?_zip_eq_some.mp hi
  unfold putV at g1
  rw [List.getElem?_map, Option.map_eq_some_iff] at g1
  obtain ⟨q, hq, e⟩ := g1
  obtain ⟨_, q2⟩ := List.getElem?_zip_eq_some.mp hq
  obtain ⟨_, q3⟩ := List.getElem?_zip_eq_some.mp q2
  have en : q.2.2 = p.2 := Option.some.inj (q3.symm.trans g2)
  have t : (2 : Int) ≤ p.2 := h.two _ (List.of_mem_zip hp).2
  rw [← e, en]
  exact ⟨Int.emod_nonneg _ (by omega), Int.emod_lt_of_pos _ (by omega)⟩
theorem zero_el {rs : List Int} (h : OkR rs) : OkE rs (zeroV rs) := by
  refine ⟨by simp [zeroV], fun p hp => ?_⟩
  obtain ⟨q1, q2⟩ := List.of_mem_zip hp
  unfold zeroV at q1
  obtain ⟨n, _, e⟩ := List.mem_map.mp q1
  have t : (2 : Int) ≤ p.2 := h.two _ q2
  omega
/-- so many times -/
def timesV (rs : List Int) (n : Int) (x : List Int) : List Int := (x.zip rs).map fun p => n * p.1 % p.2
/-- rounds that the program takes -/
structure OkG (rs : List Int) : Prop where
  ok : OkR rs
  most : ∀ n ∈ rs, n ≤ 144
  prod : rs.foldl (· * ·) 1 ≤ 144
theorem take_more {α : Type} {l : List α} {i : Nat} {x : α} (h : l[i]? = some x) : l.take (i + 1) = l.take i ++ [x] := by
  rw [List.take_add_one, h]
  rfl
theorem is_seq (src : D) (rs : List Int) (h : src = tuI rs ∨ src = liI rs) (cs us : List Nat) : isD cs us src (.tup [.ty "list", .ty "tuple"]) = .ok (.bl true) := by
  rcases h with rfl | rfl <;> kernel_rfl
theorem runI_nx {p n c : Nat} {g : Env → Oc} {ds : List D} {r : Env} (h : ds.length = p) (e : g (startI n c ds) = .nx r) : runI p n c g ds = selfR r := by
  unfold runI
  rw [if_pos h, e]
theorem getD_zip {xs ys : List Int} {f : Int × Int → Int} {i : Nat} (h1 : i < xs.length) (h2 : i < ys.length) : ((xs.zip ys).map f).getD i 0 = f (xs.getD i 0, ys.getD i 0) := by
  have e1 : xs[i]? = some (xs.getD i 0) := by rw [List.getD_eq_getElem?_getD, List.getElem?_eq_getElem h1]; rfl
  have e2 : ys[i]? = some (ys.getD i 0) := by rw [List.getD_eq_getElem?_getD, List.getElem?_eq_getElem h2]; rfl
  have e3 : (xs.zip ys)[i]? = some (xs.getD i 0, ys.getD i 0) := List.getElem?_zip_eq_some.mpr ⟨e1, e2⟩
  rw [List.getD_eq_getElem?_getD, List.getElem?_map, e3]
  rfl
theorem putV_at {rs x y : List Int} {i : Nat} (hi : i < rs.length) (h1 : x.length = rs.length) (h2 : y.length = rs.length) : (putV rs x y).getD i 0 = (x.getD i 0 + y.getD i 0) % rs.getD i 0 := by
  have e1 : x[i]? = some (x.getD i 0) := by rw [List.getD_eq_getElem?_getD, List.getElem?_eq_getElem (by omega)]; rfl
  have e2 : y[i]? = some (y.getD i 0) := by rw [List.getD_eq_getElem?_getD, List.getElem?_eq_getElem (by omega)]; rfl
  have e3 : rs[i]? = some (rs.getD i 0) := by rw [List.getD_eq_getElem?_getD, List.getElem?_eq_getElem hi]; rfl
  have e4 : (x.zip (y.zip rs))[i]? = some (x.getD i 0, y.getD i 0, rs.getD i 0) := List.getElem?_zip_eq_some.mpr ⟨e1, List.getElem?_zip_eq_some.mpr ⟨e2, e3⟩⟩
  unfold putV
  rw [List.getD_eq_getElem?_getD, List.getElem?_map, e4]
  rfl
theorem ext_getD {xs ys : List Int} (hl : xs.length = ys.length) (h : ∀ i, i < ys.length → xs.getD i 0 = ys.getD i 0) : xs = ys := by
  apply List.ext_getElem hl
  intro i h1 h2
  have := h i h2
  rw [List.getD_eq_getElem?_getD, List.getD_eq_getElem?_getD, List.getElem?_eq_getElem h1, List.getElem?_eq_getElem h2] at this
  exact this
theorem OkE.get {rs x : List Int} (h : OkE rs x) {i : Nat} (hi : i < rs.length) : 0 ≤ x.getD i 0 ∧ x.getD i 0 < rs.getD i 0 := by
  have e1 : x[i]? = some (x.getD i 0) := by rw [List.getD_eq_getElem?_getD, List.getElem?_eq_getElem (by rw [h.len]; exact hi)]; rfl
  have e3 : rs[i]? = some (rs.getD i 0) := by rw [List.getD_eq_getElem?_getD, List.getElem?_eq_getElem hi]; rfl
  exact h.at_ _ (List.mem_of_getElem? (List.getElem?_zip_eq_some.mpr ⟨e1, e3⟩ : (x.zip rs)[i]? = some (x.getD i 0, rs.getD i 0)))
theorem OkR.get {rs : List Int} (h : OkR rs) {i : Nat} (hi : i < rs.length) : 2 ≤ rs.getD i 0 := by
  have e3 : rs[i]? = some (rs.getD i 0) := by rw [List.getD_eq_getElem?_getD, List.getElem?_eq_getElem hi]; rfl
  exact h.two _ (List.mem_of_getElem? e3)
theorem zeroV_at (rs : List Int) (i : Nat) : (zeroV rs).getD i 0 = 0 := by
  unfold zeroV
  rw [List.getD_eq_getElem?_getD, List.getElem?_map]
  cases rs[i]? <;> rfl
/-- what stays while the number is halved -/
structure TInv (rs x0 : List Int) (n0 n : Int) (x f : List Int) : Prop where
  lx : x.length = rs.length
  ef : OkE rs f
  nn : 0 ≤ n
  eq : ∀ i, i < rs.length → (f.getD i 0 + n * x.getD i 0) % rs.getD i 0 = n0 * x0.getD i 0 % rs.getD i 0
theorem timesV_at {rs x : List Int} {n : Int} {i : Nat} (hi : i < rs.length) (hl : x.length = rs.length) : (timesV rs n x).getD i 0 = n * x.getD i 0 % rs.getD i 0 := getD_zip (f := fun p => n * p.1 % p.2) (by omega) hi
theorem TInv.done {rs x0 x f : List Int} {n0 : Int} (h : OkR rs) (hl : x0.length = rs.length) (v : TInv rs x0 n0 0 x f) : f = timesV rs n0 x0 := by
  refine ext_getD (by rw [v.ef.len]; simp [timesV, hl]) fun i hi => ?_
  have hi' : i < rs.length := by simpa [timesV, hl] using hi
  have e := v.eq i hi'
  obtain ⟨a, b⟩ := v.ef.get hi'
  rw [Int.zero_mul, Int.add_zero, Int.emod_eq_of_lt a b] at e
  rw [e, timesV_at hi' hl]
theorem timesV_len (rs x : List Int) (n : Int) (hl : x.length = rs.length) : (timesV rs n x).length = rs.length := by simp [timesV, hl]
theorem foldl_pos : ∀ (rs : List Int) (a : Int), 1 ≤ a → (∀ n ∈ rs, 2 ≤ n) → 1 ≤ rs.foldl (· * ·) a
  | [], _, h, _ => h
  | r :: rs, a, h, h2 => foldl_pos rs (a * r) (by
    have := h2 r List.mem_cons_self
    have q : 1 * 1 ≤ a * r := Int.mul_le_mul h (by omega) (by omega) (by omega)
    omega) fun n hn => h2 n (List.mem_cons_of_mem _ hn)
theorem times_succ {rs x : List Int} (hl : x.length = rs.length) (j : Nat) : putV rs (timesV rs j x) x = timesV rs ((j + 1 : Nat) : Int) x := ext_getD (by rw [putV_len (timesV_len rs x j hl) hl, timesV_len rs x _ hl]) fun i hi => by
  have hi' : i < rs.length := by rw [timesV_len rs x _ hl] at hi; exact hi
  rw [putV_at hi' (timesV_len rs x j hl) hl, timesV_at hi' hl, timesV_at hi' hl]
  have e : ((j + 1 : Nat) : Int) * x.getD i 0 = (j : Int) * x.getD i 0 + x.getD i 0 := by
    rw [Int.natCast_add, Int.add_mul]
    show _ + (1 : Int) * _ = _
    rw [Int.one_mul]
  rw [e, Int.emod_add_emod]
theorem prod_app (f : List Int) (a b : Int) : (f ++ [a]).foldl (· * ·) b = f.foldl (· * ·) b * a := by rw [List.foldl_append]; rfl
/-- what stays while rounds are drawn -/
structure RIM (most : Int) (i : Nat) (f : List Int) (left : Int) : Prop where
  len : f.length ≤ i
  two : ∀ n ∈ f, 2 ≤ n
  le : ∀ n ∈ f, n ≤ most
  one : 1 ≤ left
  prod : f.foldl (· * ·) 1 * left ≤ most
theorem RIM.left_le {most : Int} {i : Nat} {f : List Int} {left : Int} (v : RIM most i f left) : left ≤ most := by
  have p := foldl_pos f 1 (by omega) v.two
  have q : 1 * left ≤ f.foldl (· * ·) 1 * left := Int.mul_le_mul_of_nonneg_right p (by have := v.one; omega)
  have := v.prod
  omega
theorem RIM.step {most : Int} {i : Nat} {f : List Int} {left n : Int} (v : RIM most i f left) (h2 : 2 ≤ n) (h : n ≤ left) : RIM most (i + 1) (f ++ [n]) (left / n) where
  len := by have := v.len; simp; omega
  two := fun m hm => by
    rcases List.mem_append.mp hm with z | z
    · exact v.two m z
    · rw [List.mem_singleton.mp z]; exact h2
  le := fun m hm => by
    rcases List.mem_append.mp hm with z | z
    · exact v.le m z
    · have := v.left_le
      rw [List.mem_singleton.mp z]; omega
  one := by
    have z : 1 * n ≤ left := by omega
    exact (Int.le_ediv_iff_mul_le (by omega)).mpr z
  prod := by
    rw [prod_app, Int.mul_assoc]
    have p := foldl_pos f 1 (by omega) v.two
    have z : n * (left / n) ≤ left := Int.mul_ediv_self_le (by omega)
    have q := Int.mul_le_mul_of_nonneg_left z (show 0 ≤ f.foldl (· * ·) 1 by omega)
    have := v.prod
    omega
theorem RIM.mono {most : Int} {i : Nat} {f : List Int} {left : Int} (v : RIM most i f left) : RIM most (i + 1) f left := ⟨by have := v.len; omega, v.two, v.le, v.one, v.prod⟩
/-- rounds drawn: of a product of at most so many -/
structure OkM (most : Int) (rs : List Int) : Prop where
  ok : OkG rs
  prod : rs.foldl (· * ·) 1 ≤ most
  len : rs.length ≤ 3
/-- things of a plain kind -/
def plainD : D → Bool
  | .non => true
  | .bl _ => true
  | .int _ => true
  | .str _ => true
  | .tup _ => true
  | .lst _ => true
  | .dic _ _ => true
  | _ => false
def isW : D → Bool
  | .int _ => true
  | _ => false
def inB : D → Int → Bool
  | .int i, m => decide (0 ≤ i) && decide (i < m)
  | _, _ => false
/-- whether a thing is an element -/
def elB (rs : List Int) : D → Bool
  | .tup ds => decide (ds.length = rs.length) && (ds.zip rs).all fun p => inB p.1 p.2
  | _ => false
/-- what is asked here -/
def plainT : D → Bool
  | .tup ds => ds.all plainD
  | d => plainD d
theorem is_tuple_any {d : D} (h : plainT d = true) (cs us : List Nat) : isD cs us d (.ty "tuple") = .ok (.bl (match d with | .tup _ => true | _ => false)) := by
  cases d <;> first | (cases h; done) | rfl
theorem ints_of : ∀ {ds : List D} {rs : List Int}, ds.length = rs.length → ((ds.zip rs).all fun p => inB p.1 p.2) = true → ∃ x : List Int, ds = x.map D.int ∧ ∀ p ∈ x.zip rs, 0 ≤ p.1 ∧ p.1 < p.2
  | [], [], _, _ => ⟨[], rfl, fun _ h => nomatch h⟩
  | [], _ :: _, h, _ => by simp at h
  | _ :: _, [], h, _ => by simp at h
  | d :: ds, m :: rs, hl, h => by
    rw [List.zip_cons_cons, List.all_cons, Bool.and_eq_true] at h
    obtain ⟨x, e, q⟩ := ints_of (by simpa using hl) h.2
    cases d with
    | int i =>
      have h1 : 0 ≤ i ∧ i < m := by simpa [inB] using h.1
      refine ⟨i :: x, by rw [e]; rfl, fun p hp => ?_⟩
      rw [List.zip_cons_cons] at hp
      rcases List.mem_cons.mp hp with z | z
      · subst z; exact h1
      · exact q p z
    | _ => simp [inB] at h
theorem elB_el {rs : List Int} {d : D} (h : elB rs d = true) : ∃ x, OkE rs x ∧ d = tuI x := by
  cases d with
  | tup ds =>
    unfold elB at h
    rw [Bool.and_eq_true, decide_eq_true_iff] at h
    obtain ⟨x, e, q⟩ := ints_of h.1 h.2
    refine ⟨x, ⟨?_, q⟩, by rw [e]⟩
    have := h.1
    rw [e] at this
    simpa using this
  | _ => cases h
theorem mem_zip_any {ds : List D} {rs : List Int} {d : D} (h : d ∈ zipL2 ds (rs.map D.int)) : ∃ p ∈ ds.zip rs, d = .tup [p.1, .int p.2] := by
  unfold zipL2 at h
  rw [List.zip_map_right, List.map_map] at h
  obtain ⟨p, hp, e⟩ := List.mem_map.mp h
  exact ⟨p, hp, e.symm⟩
theorem any_zip {ds : List D} {rs : List Int} (f : D → Int → Bool) (g : D → Bool) (h : ∀ a i, g (.tup [a, .int i]) = f a i) : (zipL2 ds (rs.map D.int)).any g = (ds.zip rs).any fun p => f p.1 p.2 := by
  unfold zipL2
  rw [List.zip_map_right, List.map_map, List.any_map]
  congr 1
  funext p
  exact h p.1 p.2
end Mir
namespace Mir
open PySem PySem.Spec PyProof.Rows L2
variable [Tn]
theorem nodup_flat {α β : Type} {f : α → List β} : ∀ {l : List α}, (∀ a ∈ l, (f a).Nodup) → l.Pairwise (fun a b => ∀ x ∈ f a, x ∉ f b) → (l.flatMap f).Nodup
  | [], _, _ => by simp
  | a :: l, h, p => by
    rw [List.pairwise_cons] at p
    rw [List.flatMap_cons, List.nodup_append]
    refine ⟨h a List.mem_cons_self, nodup_flat (fun b hb => h b (List.mem_cons_of_mem _ hb)) p.2, fun x hx y hy e => ?_⟩
    subst e
    obtain ⟨b, hb, hy⟩ := List.mem_flatMap.mp hy
    exact p.1 b hb x hx hy
theorem nodup_inj {α β : Type} {f : α → β} (hf : ∀ a b, f a = f b → a = b) : ∀ {l : List α}, l.Nodup → (l.map f).Nodup
  | [], _ => by simp
  | a :: l, h => by
    rw [List.nodup_cons] at h
    rw [List.map_cons, List.nodup_cons]
    refine ⟨fun hm => ?_, nodup_inj hf h.2⟩
    obtain ⟨b, hb, e⟩ := List.mem_map.mp hm
    exact h.1 (hf _ _ e ▸ hb)
theorem sum_const {α : Type} (c : Nat) : ∀ l : List α, (l.map fun _ => c).sum = l.length * c
  | [] => by simp
  | a :: l => by rw [List.map_cons, List.sum_cons, sum_const c l, List.length_cons, Nat.succ_mul]; omega
theorem OkE.nil : OkE [] [] := ⟨rfl, fun _ h => nomatch h⟩
theorem OkE.cons {n i : Int} {rs t : List Int} : OkE (n :: rs) (i :: t) ↔ (0 ≤ i ∧ i < n) ∧ OkE rs t := by
  constructor
  · intro h
    refine ⟨h.at_ (i, n) (by simp), ⟨by have := h.len; simpa using this, fun p hp => h.at_ p (by rw [List.zip_cons_cons]; exact List.mem_cons_of_mem _ hp)⟩⟩
  · rintro ⟨h1, h2⟩
    refine ⟨by simp [h2.len], fun p hp => ?_⟩
    rw [List.zip_cons_cons] at hp
    rcases List.mem_cons.mp hp with z | z
    · subst z; exact h1
    · exact h2.at_ p z
theorem mem_fold : ∀ (rs : List Int) (S : List (List Int)) (x : List Int), x ∈ rs.foldl memsStep S ↔ ∃ s t, s ∈ S ∧ x = s ++ t ∧ OkE rs t
  | [], S, x => by
    rw [List.foldl_nil]
    constructor
    · intro h
      exact ⟨x, [], h, by simp, .nil⟩
    · rintro ⟨s, t, hs, rfl, ht⟩
      have : t = [] := List.length_eq_zero_iff.mp ht.len
      subst this
      simpa using hs
  | n :: rs, S, x => by
    rw [List.foldl_cons, mem_fold rs]
    constructor
    · rintro ⟨s, t, hs, rfl, ht⟩
      unfold memsStep at hs
      obtain ⟨a, ha, hs⟩ := List.mem_flatMap.mp hs
      obtain ⟨i, hi, rfl⟩ := List.mem_map.mp hs
      have := List.mem_range.mp hi
      exact ⟨a, (i : Int) :: t, ha, by simp, OkE.cons.mpr ⟨⟨by omega, by omega⟩, ht⟩⟩
    · rintro ⟨s, t, hs, rfl, ht⟩
      cases t with
      | nil => have := ht.len; simp at this
      | cons i t =>
        obtain ⟨⟨h1, h2⟩, h3⟩ := OkE.cons.mp ht
        refine ⟨s ++ [i], t, ?_, by simp, h3⟩
        unfold memsStep
        refine List.mem_flatMap.mpr ⟨s, hs, List.mem_map.mpr ⟨i.toNat, List.mem_range.mpr (by omega), ?_⟩⟩
        rw [Int.toNat_of_nonneg h1]
theorem mem_mems {rs x : List Int} : x ∈ mems rs ↔ OkE rs x := by
  unfold mems
  rw [mem_fold]
  constructor
  · rintro ⟨s, t, hs, rfl, ht⟩
    rw [List.mem_singleton.mp hs]
    simpa using ht
  · intro h
    exact ⟨[], x, by simp, by simp, h⟩
theorem step_len (S : List (List Int)) (n : Int) : (memsStep S n).length = S.length * n.toNat := by
  unfold memsStep
  rw [List.length_flatMap]
  simp [sum_const]
theorem fold_len : ∀ (rs : List Int) (S : List (List Int)), (∀ n ∈ rs, 0 ≤ n) → ((rs.foldl memsStep S).length : Int) = rs.foldl (· * ·) (S.length : Int)
  | [], S, _ => rfl
  | n :: rs, S, h => by
    rw [List.foldl_cons, List.foldl_cons, fold_len rs _ fun m hm => h m (List.mem_cons_of_mem _ hm), step_len]
    congr 1
    have := h n List.mem_cons_self
    rw [Int.natCast_mul, Int.toNat_of_nonneg this]
theorem mems_len {rs : List Int} (h : ∀ n ∈ rs, 0 ≤ n) : ((mems rs).length : Int) = rs.foldl (· * ·) 1 := by
  unfold mems
  rw [fold_len rs _ h]
  rfl
theorem fold_nodup : ∀ (rs : List Int) (S : List (List Int)) (k : Nat), S.Nodup → (∀ s ∈ S, s.length = k) → (rs.foldl memsStep S).Nodup
  | [], S, _, h, _ => h
  | n :: rs, S, k, h, hk => by
    rw [List.foldl_cons]
    refine fold_nodup rs _ (k + 1) ?_ fun s hs => ?_
    · unfold memsStep
      refine nodup_flat (fun s _ => ?_) ?_
      · refine nodup_inj (fun a b e => ?_) List.nodup_range
        have := List.append_cancel_left e
        have z : ((a : Nat) : Int) = b := by simpa using this
        omega
      · refine List.Pairwise.imp_of_mem (R := fun a b => a ≠ b) (fun {a b} ha hb ne => ?_) h
        intro x hx hy
        obtain ⟨i, _, rfl⟩ := List.mem_map.mp hx
        obtain ⟨j, _, e⟩ := List.mem_map.mp hy
        have := List.append_inj_left e (by rw [hk a ha, hk b hb])
        exact ne this.symm
    · unfold memsStep at hs
      obtain ⟨a, ha, hs⟩ := List.mem_flatMap.mp hs
      obtain ⟨i, _, rfl⟩ := List.mem_map.mp hs
      simp [hk a ha]
theorem mems_nodup (rs : List Int) : (mems rs).Nodup := fold_nodup rs [[]] 0 (by simp) (by simp)
theorem prs_nodup (rs : List Int) : (prs rs).Nodup := by
  unfold prs
  refine nodup_flat (fun x _ => ?_) ?_
  · exact nodup_inj (fun a b e => (Prod.mk.inj e).2) (mems_nodup rs)
  · refine List.Pairwise.imp (R := fun a b => a ≠ b) (fun {a b} ne => ?_) (mems_nodup rs)
    intro x hx hy
    obtain ⟨i, _, rfl⟩ := List.mem_map.mp hx
    obtain ⟨j, _, e⟩ := List.mem_map.mp hy
    exact ne (Prod.mk.inj e).1.symm
/-- the upper groups that are let in -/
def smallUps : List (List Int) := [[], [2], [3], [4], [5], [6], [7], [8], [9], [2, 2], [2, 3], [2, 4], [3, 2], [3, 3], [4, 2], [2, 2, 2]]
theorem small_ups {rs : List Int} (h : ∀ n ∈ rs, 2 ≤ n) (hp : rs.foldl (· * ·) 1 ≤ 9) : rs ∈ smallUps := by
  match rs, h, hp with
  | [], _, _ => decide
  | [a], h, hp =>
    have h2 := h a (by simp)
    have hp : 1 * a ≤ 9 := hp
    have : a = 2 ∨ a = 3 ∨ a = 4 ∨ a = 5 ∨ a = 6 ∨ a = 7 ∨ a = 8 ∨ a = 9 := by omega
    rcases this with rfl | rfl | rfl | rfl | rfl | rfl | rfl | rfl <;> decide
  | [a, b], h, hp =>
    have h2 := h a (by simp)
    have h3 := h b (by simp)
    have hp : 1 * a * b ≤ 9 := hp
    rw [Int.one_mul] at hp
    have ha : a ≤ 4 := by
      have := Int.mul_le_mul_of_nonneg_left h3 (show 0 ≤ a by omega)
      omega
    have hb : b ≤ 4 := by
      have := Int.mul_le_mul_of_nonneg_right h2 (show 0 ≤ b by omega)
      omega
    have e1 : a = 2 ∨ a = 3 ∨ a = 4 := by omega
    have e2 : b = 2 ∨ b = 3 ∨ b = 4 := by omega
    rcases e1 with rfl | rfl | rfl <;> rcases e2 with rfl | rfl | rfl <;> first | decide | (exfalso; omega)
  | [a, b, c], h, hp =>
    have h2 := h a (by simp)
    have h3 := h b (by simp)
    have h4 := h c (by simp)
    have hp : 1 * a * b * c ≤ 9 := hp
    rw [Int.one_mul] at hp
    have q1 : 2 * 2 ≤ a * b := Int.mul_le_mul h2 h3 (by omega) (by omega)
    have q2 : a * b * 2 ≤ a * b * c := Int.mul_le_mul_of_nonneg_left h4 (by omega)
    have q3 : 2 * 2 * c ≤ a * b * c := Int.mul_le_mul_of_nonneg_right q1 (by omega)
    have hc : c = 2 := by omega
    have hab : a * b ≤ 4 := by omega
    have ha : a ≤ 2 := by
      have := Int.mul_le_mul_of_nonneg_left h3 (show 0 ≤ a by omega)
      omega
    have hb : b ≤ 2 := by
      have := Int.mul_le_mul_of_nonneg_right h2 (show 0 ≤ b by omega)
      omega
    have e1 : a = 2 := by omega
    have e2 : b = 2 := by omega
    subst e1 e2 hc
    decide
  | a :: b :: c :: d :: rs, h, hp =>
    exfalso
    have h2 := h a (by simp)
    have h3 := h b (by simp)
    have h4 := h c (by simp)
    have h5 := h d (by simp)
    have hp : rs.foldl (· * ·) (1 * a * b * c * d) ≤ 9 := hp
    rw [Int.one_mul] at hp
    have q1 : 2 * 2 ≤ a * b := Int.mul_le_mul h2 h3 (by omega) (by omega)
    have q2 : 2 * 2 * 2 ≤ a * b * c := Int.mul_le_mul q1 h4 (by omega) (by omega)
    have q3 : 2 * 2 * 2 * 2 ≤ a * b * c * d := Int.mul_le_mul q2 h5 (by omega) (by omega)
    have mono : ∀ (l : List Int) (p : Int), 0 ≤ p → (∀ n ∈ l, 2 ≤ n) → p ≤ l.foldl (· * ·) p := fun l => by
      induction l with
      | nil => intro p _ _; exact Int.le_refl _
      | cons n l ih =>
        intro p hp hl
        rw [List.foldl_cons]
        have hn := hl n List.mem_cons_self
        have t : p * 1 ≤ p * n := Int.mul_le_mul_of_nonneg_left (by omega) hp
        have := ih (p * n) (by omega) fun m hm => hl m (List.mem_cons_of_mem _ hm)
        omega
    have := mono rs (a * b * c * d) (by omega) fun n hn => h n (by simp [hn])
    omega
theorem apart_prs {rs : List Int} (h : rs ∈ smallUps) : apartK ((prs rs).map pkD) = true := by
  simp only [smallUps, List.mem_cons, List.not_mem_nil, or_false] at h
  rcases h with rfl | rfl | rfl | rfl | rfl | rfl | rfl | rfl | rfl | rfl | rfl | rfl | rfl | rfl | rfl | rfl <;> decide +kernel
theorem dictD_F {α β : Type} [DecidableEq α] {E : α → D} {V : β → D} (l : List α) (f : α → β) (h : apartK (l.map E) = true) : dictD (dicF E V l f) = .ok (dicF E V l f) := by
  unfold dictD dicF dicA
  have e : ((l.map fun x => (x, f x)).map fun p => E p.1) = l.map E := by rw [List.map_map]; rfl
  simp only [e, h, if_true]
/-- a walk over a row, by places -/
theorem forD_row {α : Type} {pre0 : List α} {f : D → Env → Oc} (A : α → D) (P : List α → Env → Prop) : ∀ {ds : List α} {r : Env} {pre : List α}, (∀ (pre : List α) a, (pre ++ [a]) <+: pre0 → ∀ r, P pre r → ∃ r', f (A a) r = .nx r' ∧ P (pre ++ [a]) r') → pre ++ ds = pre0 → P pre r → ∃ r', forD f (ds.map A) r = .nx r' ∧ P (pre ++ ds) r'
  | [], r, pre, _, _, hp => ⟨r, rfl, by simpa using hp⟩
  | a :: ds, r, pre, h, he, hp => by
    obtain ⟨r1, e, p1⟩ := h pre a ⟨ds, by simpa using he⟩ r hp
    obtain ⟨r2, e2, p2⟩ := forD_row A P (pre := pre ++ [a]) (ds := ds) h (by simpa using he) p1
    refine ⟨r2, ?_, by simpa using p2⟩
    rw [List.map_cons, forD_cons, e]
    exact e2
/-- a table -/
def tabD (lo up : List Int) (c : List Int → List Int → List Int) : D := .obj 2 [gR lo, gR up, dicF pkD tuI (prs up) fun p => c p.1 p.2]
theorem runO_rt {p n : Nat} {g : Env → Oc} {ds : List D} {d : D} (h : ds.length = p) (e : g (startD n ds) = .rt d) : runO p n g ds = .ok d := by
  unfold runO
  rw [if_pos h, e]
theorem asF {α β : Type} [DecidableEq α] (d : β) {L : List (α × β)} (hn : (L.map (·.1)).Nodup) : L = (L.map (·.1)).map fun a => (a, (lookA L a).getD d) := by
  rw [List.map_map]
  have e : ∀ p ∈ L, ((fun a => (a, (lookA L a).getD d)) ∘ (·.1)) p = p := fun p hp => by
    show (p.1, (lookA L p.1).getD d) = p
    rw [lookA_mem hn (show (p.1, p.2) ∈ L from hp)]
    rfl
  rw [List.map_congr_left e]
  simp
theorem toF {lo up : List Int} {L : List ((List Int × List Int) × List Int)} (hk : L.map (·.1) = prs up) (hv : ∀ p ∈ L, OkE lo p.2) : ∃ c : List Int → List Int → List Int, (∀ x y, OkE up x → OkE up y → OkE lo (c x y)) ∧ dicA pkD tuI L = dicF pkD tuI (prs up) fun p => c p.1 p.2 := by
  have hn : (L.map (·.1)).Nodup := by rw [hk]; exact prs_nodup up
  refine ⟨fun x y => (lookA L (x, y)).getD [], fun x y hx hy => ?_, ?_⟩
  · have hm : (x, y) ∈ L.map (·.1) := by rw [hk]; exact mem_prs.mpr ⟨mem_mems.mpr hx, mem_mems.mpr hy⟩
    obtain ⟨p, hp, e⟩ := List.mem_map.mp hm
    have e2 := lookA_mem hn (show (p.1, p.2) ∈ L from hp)
    rw [e] at e2
    show OkE lo ((lookA L (x, y)).getD [])
    rw [e2]
    exact hv p hp
  · have := asF (d := ([] : List Int)) hn
    rw [hk] at this
    unfold dicF
    exact congrArg (dicA pkD tuI) this
theorem fill1 {N : Nat} {lo : List Int} {f : D → Env → Oc} {x : List Int} (P : List ((List Int × List Int) × List Int) → Env → Prop) : ∀ {ys : List (List Int)} {L : List ((List Int × List Int) × List Int)} {r : Env}, L.length + ys.length ≤ N → ys.Nodup → (∀ y ∈ ys, (x, y) ∉ L.map (·.1)) →
    (∀ L, L.length < N → ∀ y ∈ ys, (x, y) ∉ L.map (·.1) → ∀ r, P L r → ∃ v r', OkE lo v ∧ f (tuI y) r = .nx r' ∧ P (setA L (x, y) v) r') → P L r →
    ∃ L' r', forD f (ys.map tuI) r = .nx r' ∧ P (L ++ L') r' ∧ L'.map (·.1) = ys.map (fun y => (x, y)) ∧ ∀ p ∈ L', OkE lo p.2
  | [], L, r, _, _, _, _, hp => ⟨[], r, rfl, by simpa using hp, rfl, fun _ h => nomatch h⟩
  | y :: ys, L, r, hl, hn, hf, h, hp => by
    rw [List.length_cons] at hl
    rw [List.nodup_cons] at hn
    obtain ⟨v, r1, hv, e, p1⟩ := h L (by omega) y List.mem_cons_self (hf y List.mem_cons_self) r hp
    rw [setA_new v (hf y List.mem_cons_self)] at p1
    obtain ⟨L', r2, e2, p2, k2, v2⟩ := fill1 P (L := L ++ [((x, y), v)]) (r := r1) (by simp; omega) hn.2 (fun z hz hm => by
      rw [List.map_append, List.mem_append] at hm
      rcases hm with m | m
      · exact hf z (List.mem_cons_of_mem _ hz) m
      · rw [List.map_cons, List.map_nil, List.mem_singleton] at m
        injection m with _ m
        exact hn.1 (m ▸ hz)) (fun L hL z hz => h L hL z (List.mem_cons_of_mem _ hz)) p1
    refine ⟨((x, y), v) :: L', r2, ?_, by simpa using p2, by simp [k2], fun p hq => ?_⟩
    · rw [List.map_cons, forD_cons, e]
      exact e2
    · rcases List.mem_cons.mp hq with z | z
      · subst z; exact hv
      · exact v2 p z
theorem fill2 {N : Nat} {α : Type} {lo up : List Int} {outer inner : D → Env → Oc} (A : α → D) (kx : α → List Int) (P : List ((List Int × List Int) × List Int) → Env → Prop) (P' : List ((List Int × List Int) × List Int) → α → Env → Prop) : ∀ {X : List α} {L : List ((List Int × List Int) × List Int)} {r : Env}, L.length + X.length * (mems up).length ≤ N → (X.map kx).Nodup → (∀ a ∈ X, ∀ y ∈ mems up, (kx a, y) ∉ L.map (·.1)) →
    (∀ L, L.length < N → ∀ a ∈ X, ∀ y ∈ mems up, (kx a, y) ∉ L.map (·.1) → ∀ r, P' L a r → ∃ v r', OkE lo v ∧ inner (tuI y) r = .nx r' ∧ P' (setA L (kx a, y) v) a r') →
    (∀ L, ∀ a ∈ X, ∀ r, P L r → ∃ r1, P' L a r1 ∧ ∀ L' r2, forD inner ((mems up).map tuI) r1 = .nx r2 → P' L' a r2 → ∃ r3, outer (A a) r = .nx r3 ∧ P L' r3) → P L r →
    ∃ L' r', forD outer (X.map A) r = .nx r' ∧ P (L ++ L') r' ∧ L'.map (·.1) = X.flatMap (fun a => (mems up).map fun y => (kx a, y)) ∧ ∀ p ∈ L', OkE lo p.2
  | [], L, r, _, _, _, _, _, hp => ⟨[], r, rfl, by simpa using hp, rfl, fun _ h => nomatch h⟩
  | a :: X, L, r, hl, hn, hf, hi, ho, hp => by
    rw [List.length_cons, Nat.succ_mul] at hl
    rw [List.map_cons, List.nodup_cons] at hn
    obtain ⟨r1, p1, q⟩ := ho L a List.mem_cons_self r hp
    obtain ⟨L1, r2, e1, p2, k1, v1⟩ := fill1 (lo := lo) (f := inner) (x := kx a) (N := N) (fun L r => P' L a r) (by omega) (mems_nodup up) (hf a List.mem_cons_self) (fun L hL y hy hm r hr => hi L hL a List.mem_cons_self y hy hm r hr) p1
    obtain ⟨r3, e3, p3⟩ := q _ r2 e1 p2
    obtain ⟨L2, r4, e4, p4, k2, v2⟩ := fill2 A kx P P' (X := X) (L := L ++ L1) (r := r3) (by have := congrArg List.length k1; rw [List.length_map, List.length_map] at this; rw [List.length_append]; omega) hn.2 (fun b hb y hy hm => by
      rw [List.map_append, List.mem_append] at hm
      rcases hm with m | m
      · exact hf b (List.mem_cons_of_mem _ hb) y hy m
      · rw [k1] at m
        obtain ⟨z, _, e⟩ := List.mem_map.mp m
        injection e with e _
        exact hn.1 (e ▸ List.mem_map.mpr ⟨b, hb, rfl⟩)) (fun L hL b hb => hi L hL b (List.mem_cons_of_mem _ hb)) (fun L b hb => ho L b (List.mem_cons_of_mem _ hb)) p3
    refine ⟨L1 ++ L2, r4, ?_, by simpa using p4, by simp [k1, k2], fun p hq => ?_⟩
    · rw [List.map_cons, forD_cons, e3]
      exact e4
    · rcases List.mem_append.mp hq with z | z
      · exact v1 p z
      · exact v2 p z
theorem enumL_els (xs : List (List Int)) : enumL (xs.map tuI) = xs.zipIdx.map fun p => .tup [.int (p.2 : Nat), tuI p.1] := by
  unfold enumL
  rw [List.zipIdx_map, List.map_map]
  rfl
theorem zipIdx_fst {α : Type} (xs : List α) : xs.zipIdx.map (·.1) = xs := by
  simp
theorem mem_zipIdx_lt {α : Type} {xs : List α} {p : α × Nat} (h : p ∈ xs.zipIdx) : p.1 ∈ xs ∧ p.2 < xs.length := by
  obtain ⟨a, i⟩ := p
  have := List.mem_zipIdx h
  simp at this
  exact ⟨by rw [this.2]; exact List.getElem_mem _, by omega⟩
end Mir
namespace Mir
open PySem PySem.Spec PyProof.Rows L2
variable [Tn]
/-- the pairs of places, the lesser first -/
def placeRow (n i : Nat) : List (Nat × Nat) := (List.range (n - (i + 1))).map fun k => (i, i + 1 + k)
def placePairs (n : Nat) : List (Nat × Nat) := (List.range n).flatMap (placeRow n)
theorem mem_placePairs {n : Nat} {p : Nat × Nat} : p ∈ placePairs n ↔ p.1 < p.2 ∧ p.2 < n := by
  unfold placePairs placeRow
  rw [List.mem_flatMap]
  constructor
  · rintro ⟨i, hi, h⟩
    obtain ⟨k, hk, rfl⟩ := List.mem_map.mp h
    have := List.mem_range.mp hk
    exact ⟨by show i < i + 1 + k; omega, by show i + 1 + k < n; omega⟩
  · rintro ⟨h1, h2⟩
    refine ⟨p.1, List.mem_range.mpr (by omega), List.mem_map.mpr ⟨p.2 - (p.1 + 1), List.mem_range.mpr (by omega), ?_⟩⟩
    obtain ⟨a, b⟩ := p
    have h1 : a < b := h1
    show (a, a + 1 + (b - (a + 1))) = (a, b)
    rw [Nat.add_sub_cancel' h1]
/-- what carries are made of -/
structure OkP (lo up : List Int) (ps : List (List Int)) (L : List ((Nat × Nat) × List Int)) : Prop where
  len : ps.length = up.length
  ps : ∀ k, k < up.length → OkE lo (ps.getD k [])
  key : L.map (·.1) = placePairs up.length
  val : ∀ q ∈ L, OkE lo q.2
theorem OkP.at_ {lo up : List Int} {ps : List (List Int)} {L : List ((Nat × Nat) × List Int)} (h : OkP lo up ps L) {q : (Nat × Nat) × List Int} (hq : q ∈ L) : q.1.1 < q.1.2 ∧ q.1.2 < up.length := by
  have : q.1 ∈ placePairs up.length := by rw [← h.key]; exact List.mem_map.mpr ⟨q, hq, rfl⟩
  exact mem_placePairs.mp this
end Mir
namespace Mir
open PySem PySem.Spec PyProof.Rows L2
variable [Tn]
theorem drawsS {prog : Program} {w : World} {A : Around} (hh : A.handled = none) (k : Bool) (it l : Addr) (hne : l ≠ it) (items : Array Value) :
    Draws prog w A it [it, l] items.size (fun i v => items[i]? = some v) (fun i h => SIt h k it l i ∧ SSrc h k l items) where
  live := fun _ _ st => let ⟨o, ho, _⟩ := st.1.ob; ⟨o, ho⟩
  frame := fun _ _ _ st hk => ⟨st.1.at fun o e => hk it (by simp) o e, st.2.at fun o e => hk l (by simp) o e⟩
  item := fun i s Q E hi st hQ => by
    refine nextS_item st.1 st.2 (x := items[i]) (by simp [hi]) fun h' hit' hs' => ?_
    exact hQ _ h' s.toks (by simp [hi]) ⟨hit', st.2.at fun o e => hs'.extBut _ _ hne e⟩ hs'
  done := fun s Q E st hE => nextS_end hh st.1 st.2 (by simp) hE
abbrev eH1 (h : Heap) (k : Bool) (l : Addr) : Heap := h.push { cls := .type (clsI k), data := .fields #[.ref l, .int 0 0] }
abbrev eH2 (h : Heap) (k : Bool) (l : Addr) : Heap := (eH1 h k l).push { cls := .type "enumerate", data := .fields #[.none, .bool false, .ref h.objs.size, rawInt 0, .none, .none] }
theorem meets_enumS (k : Bool) (l : Addr) (items : Array Value) :
    Meets (Builtin.«enumerate.__new__» ⟨[.type "enumerate", .ref l], []⟩) (fun _ R s => SSrc s.heap k l items ∧
      R (.ok (.ret (.ref (eH1 s.heap k l).objs.size))) { s with heap := eH2 s.heap k l }) :=
  .of_wp fun prog w A R s h => by
    obtain ⟨hp, g, d, tk, os⟩ := s; obtain ⟨h1, h⟩ := h
    have hsub := sub_enumerate
    have q1 : ∀ {A' : Around} {E : Value → Shared → Prop} {Q : Value → Shared → Prop}, Q (.ref hp.objs.size) ⟨eH1 hp k l, g, d, tk, os⟩ → wpAny (model prog w) A' (pyIter (.ref l)) Q E ⟨hp, g, d, tk, os⟩ :=
      fun q => iterS (s := ⟨hp, g, d, tk, os⟩) h1 q
    wp_walk using q1
    refine wpAny_stack_any fun st => wpAny_pure ?_
    split
    · rename_i c _ _ _ _ _
      cases (c == Value.type "enumerate")
      · wp_walk using q1
        exact ⟨_, rfl, h⟩
      · wp_walk using q1
        exact ⟨_, rfl, h⟩
    · wp_walk using q1
      exact ⟨_, rfl, h⟩
section
variable {prog : Program} {w : World} {A : Around} {E : Value → Shared → Prop} {s : Shared}
theorem call_enumS {k : Bool} {l : Addr} {items : Array Value} {Q : Value → Shared → Prop} (hL : SSrc s.heap k l items)
    (h : ∀ h', IsEnum h' (s.heap.objs.size + 1) s.heap.objs.size 0 .none → SIt h' k s.heap.objs.size l 0 → h'.objs.size = s.heap.objs.size + 2 →
      (∀ b o, s.heap.get? b = some o → h'.get? b = some o) → Q (.ref (s.heap.objs.size + 1)) { s with heap := h' }) :
    wpAny (model prog w) A (call (.type "enumerate") [.ref l]) Q E s := by
  refine callType_new F.called_enumerate (by decide) (F.typeCall_enumerate_1 _) (F.newCall_enumerate_1 _) (fun obj => F.args_object_init_2 obj _) F.entry_enumerate_new
    (meets_enumS k l items) ⟨hL, ?_⟩
  have hz : (eH1 s.heap k l).objs.size = s.heap.objs.size + 1 := Heap.size_push ..
  show _ ∧ _
  rw [hz]
  have he : IsEnum (eH2 s.heap k l) (s.heap.objs.size + 1) s.heap.objs.size 0 .none := by
    have := Heap.get?_push_size (eH1 s.heap k l)
      (o := { cls := .type "enumerate", data := .fields #[.none, .bool false, .ref s.heap.objs.size, rawInt 0, .none, .none] }) rfl
    rw [hz] at this; exact this
  have hi : (eH2 s.heap k l).get? s.heap.objs.size = some _ := Heap.get?_push_of_some _ (Heap.get?_push_size _ rfl)
  exact ⟨⟨_, he, rfl⟩, h _ he (show SIt _ k _ l 0 by cases k <;> exact ⟨_, hi, rfl, rfl⟩) (by rw [Heap.size_push, hz]) fun b o x => Heap.get?_push_of_some _ (Heap.get?_push_of_some _ x)⟩
end
section
variable {prog : Program} {w : World} {A : Around} {E : Value → Shared → Prop} {s : Shared}
theorem enumS_end {k : Bool} {e it l : Addr} {i : Nat} {items : Array Value} {c : Int} {old : Value} {Q : Option Value → Shared → Prop} (hh : A.in1.handled = none)
    (he : IsEnum s.heap e it c old) (hit : SIt s.heap k it l i) (hl : SSrc s.heap k l items) (hx : items[i]? = none)
    (hQ : ∀ h', Heap.ExtBut it s.heap h' → Q none { s with heap := h' }) : wpAny (model prog w) A (pyNext (.ref e)) Q E s := by
  have hT : s.TypeIs (.ref e) "enumerate" := ⟨_, he, rfl⟩
  unfold pyNext
  refine wpAny_bind (wpAny_attempt (wpAny_callSpecial?_slot (name := Str.ofString "__next__") hT F.slot_enumerate_next
    (wpAny_call_entry F.slot_enumerate_next hT F.entry_enumerate_next ?_ (F.args_enumerate_next_1 _))))
  show wpAny _ _ (field (.ref e) 2 >>= _) _ _ _
  refine wpAny_bind (wpAny_field he rfl (x := .ref it) rfl ?_)
  refine wpAny_bind (nextS_end hh hit hl hx fun h' x he' hx' => ?_)
  obtain ⟨o, ho, hc⟩ := hx'
  refine wpAny_bind (wpAny_isInstance (T := "StopIteration") (b := true) ⟨o, ho, hc⟩ isSubtype_stop ?_)
  exact wpAny_pure (hQ _ he')
end
/-- the items of a list or a tuple that stands, each in a new pair -/
def IteS (K : PySem.W.Frag) (k : Bool) (a : Addr) (ys : List V) : It :=
  ⟨fun i H => SqS K H k a ys ∧ i < ys.length, fun i H v H' => ∃ (T : Addr) (x : V), v = .ref T ∧ H T = none ∧ H' = upd H T (.tup [.int (i : Nat), x]) ∧ ys[i]? = some x, fun i H => SqS K H k a ys ∧ ys.length ≤ i⟩
theorem turn_enumS {P : Program} {w : World} {K : PySem.W.Frag} {elts : List Expr} {kk : Nat} {tpos : Pos} {k : Bool} {a e it : Addr} {ys : List V} (hai : a ≠ it) (hea : e ≠ a) (hne : e ≠ it) :
    Turn P w K (.Tuple elts kk tpos) (IteS K k a ys) [e, it] e (fun i h => (∃ old, IsEnum h e it ((i : Nat) : Int) old) ∧ SIt h k it a i) where
  mem := by simp
  obj := fun i h st b hb => by
    obtain ⟨⟨old, he⟩, hi⟩ := st
    have e' : b = e ∨ b = it := by simpa using hb
    rcases e' with z | z
    · rw [z]; exact ⟨_, he, fun v q => nomatch q⟩
    · rw [z]; exact hi.ob
  keep := fun i h h' st k => let ⟨⟨old, he⟩, hi⟩ := st; ⟨⟨old, k e (by simp) _ he⟩, hi.at fun o q => k it (by simp) o q⟩
  item := by
    intro X hP hw hK hc i pins s σ H E I hf st hg
    subst hP hw hK
    obtain ⟨⟨old, he⟩, hit⟩ := st
    obtain ⟨hq, hx⟩ := hg
    obtain ⟨its, rv, p⟩ := Inv.srcS I hq
    have hl := rv.length
    have hel : e < s.heap.objs.size := Heap.lt_size he
    have hil : it < s.heap.objs.size := hit.lt
    have hh : X.A.in1.handled = none := I.ok.hd hc
    refine wpAny_pyNext_enum_itemD (drawsS hh k it a hai its.toArray) he ⟨hit, p⟩ (by simp; omega) hne (by simp [hne, hea]) fun u h' tk hu ho hst' hT hsz hk => ?_
    obtain ⟨hit', p'⟩ := hst'
    have hx1 : ys[i]? = some (ys[i]'hx) := List.getElem?_eq_getElem hx
    generalize ys[i]'hx = x at hx1
    obtain ⟨u', hu', ru⟩ := rv.get hx1
    have eu : u' = u := by
      have q : its[i]? = some u := by simpa using hu
      rw [q] at hu'; exact (Option.some.inj hu').symm
    subst eu
    refine ⟨_, rfl, wpAny_letOwnedTupleGo_enum (s := { s with heap := h', toks := tk + 1 }) ho fun h'' he' sb => ?_⟩
    have hT2 : h''.get? s.heap.objs.size = some { cls := .type "tuple", data := .seq #[.int i tk, u'] } := (sb.2 _ (Nat.ne_of_gt hel)).trans hT
    have new : ObjOk X.prog X.w (upd H s.heap.objs.size (.tup [.int (i : Nat), x])) h'' s.heap.objs.size (.tup [.int (i : Nat), x]) :=
      ⟨by show 2 ≤ sizeLine; decide, [.int i tk, u'], .cons ⟨_, rfl⟩ (.cons ru .nil), ⟨_, hT2, rfl, _, rfl⟩⟩
    have I1 : L2.Inv X pins σ (upd H s.heap.objs.size (.tup [.int (i : Nat), x])) { s with heap := h'', toks := tk + 1 } :=
      I.turnedNew (t' := tk + 1) (ch := [e, it]) (fun b ob hb q => (sb.2 b (fun z => hb (by simp [z]))).trans (hk b ob (fun z => hb (by simp [z])) (fun z => hb (by simp [z])) q)) hf (Nat.le_refl _) new
    refine ⟨.ref s.heap.objs.size, _, I1, rfl, ⟨_, x, rfl, I.hok.fresh (Nat.le_refl _), rfl, hx1⟩, ⟨⟨u', ?_⟩, hit'.at fun o q => (sb.2 it (Ne.symm hne)).trans q⟩, fun b hb => ?_⟩
    · have e1 : ((i + 1 : Nat) : Int) = (i : Int) + 1 := by omega
      rw [e1]; exact he'
    · have hb' : b < s.heap.objs.size := by
        have e' : b = e ∨ b = it := by simpa using hb
        rcases e' with z | z
        · rw [z]; exact hel
        · rw [z]; exact hil
      rw [upd_ne (Nat.ne_of_lt hb')]
      exact (hf b hb).1
  done := by
    intro X hP hw hK hc i pins s σ H E I hf st hg
    subst hP hw hK
    obtain ⟨⟨old, he⟩, hit⟩ := st
    obtain ⟨hq, hx⟩ := hg
    obtain ⟨its, rv, p⟩ := Inv.srcS I hq
    obtain ⟨f0, f1, f2, f3, f4, f5⟩ := hf it (by simp)
    have hl := rv.length
    have hh : X.A.in1.handled = none := I.ok.hd hc
    exact enumS_end hh he hit p (by simp; omega) fun h' eb => ⟨rfl, I.turned (t' := s.toks) (fun b o hb q => eb b o hb q) f0 f1 f3 f4 f5⟩
  self := fun A i s Q E st h => let ⟨⟨_, he⟩, _⟩ := st; wpAny_pyIter_enum he h
def iEnumS (K : PySem.W.Frag) (ta : TA) : TI := fun σ H R => ta σ H fun vs H1 => ∃ (k : Bool) (a : Addr) (ys : List V), vs = [.ref a] ∧ SqS K H1 k a ys ∧ R (IteS K k a ys) H1
theorem pi_enumS {X : Cx} {e : Expr} {ta : TA} {p pos tpos : Pos} {elts : List Expr} {kk : Nat} (hg : Gl X "enumerate") (hm : X.mg "enumerate" = none) (ha : PA X [e] ta) (hs : starEach [e] X.env = [(false, eval e X.env)] := by rfl) :
    PI X (.Tuple elts kk tpos) (.Call (.Name "enumerate" p) [e] [] pos) (iEnumS X.K ta) := by
  refine ⟨fun pins s σ H R I h => ?_⟩
  refine Call_ (ld_blt I hg hm boot_enumerate (PyProof.Rows.callWith_type1 (thn (ha.run pos pins s σ H _ I h) fun us s1 ⟨vs, H1, I1, r1, q1⟩ => ?_) hs rfl))
  obtain ⟨k, a, ys, ex, hq, q⟩ := q1
  subst ex
  cases r1 with
  | cons r rr =>
    cases rr
    cases r
    obtain ⟨its, rv, p'⟩ := Inv.srcS I1 hq
    have hlt := p'.lt
    refine call_enumS p' fun h' he hit hsz hk => wpAny_pyIter_enum he ?_
    have I2 : L2.Inv X pins σ H1 { s1 with heap := h' } := I1.kept (t' := s1.toks) hk
    refine ⟨s1.heap.objs.size + 1, [s1.heap.objs.size + 1, s1.heap.objs.size], _, _, H1, rfl, I2, turn_enumS (Nat.ne_of_lt hlt) (Nat.ne_of_gt (Nat.lt_succ_of_lt hlt)) (Nat.succ_ne_self _), ⟨⟨.none, he⟩, hit⟩, fun b hb => ?_, q⟩
    have e' : b = s1.heap.objs.size + 1 ∨ b = s1.heap.objs.size := by simpa using hb
    have hle : s1.heap.objs.size ≤ b := by
      rcases e' with z | z
      · rw [z]; exact Nat.le_add_right _ _
      · rw [z]; exact Nat.le_refl _
    exact I1.fpOk hle (I1.hok.fresh hle)
theorem WalkD.enumS {G : GC} {F B : Hp} {k : Bool} {a : Addr} {ys : List V} {ds : List D} (hs : SqS G.K B k a ys) (r : RepAll G F ys ds) : WalkD G F B (IteS G.K k a ys) (enumL ds) where
  goes := fun i H hi s => by
    have w := r.length
    rw [enumL_len] at hi
    exact ⟨hs.keep s, by omega⟩
  stops := fun H s => by
    have w := r.length
    exact ⟨hs.keep s, by rw [enumL_len]; omega⟩
  yields := fun i F2 H2 v H3 hi s1 s2 _ ⟨T, x, e1, e2, e3, g⟩ => by
    subst e1 e3
    obtain ⟨c, t, m⟩ := r.getV g
    exact ⟨_, .tup [.int (i : Nat), c], Grow.mk1 s2 e2, enumL_get t, Rep.tup (.of upd_same) (.cons (.int _) (.cons ((m.mono s1).mono (Grow.mk1 s2 e2).f) .nil))⟩
def enumS : List D → Res (List D)
  | [d] => match seqQ d with
    | some xs => .ok (enumL xs)
    | none => .bad
  | _ => .bad
@[simp] theorem enumS_lst (xs : List D) : enumS [.lst xs] = .ok (enumL xs) := rfl
@[simp] theorem enumS_tup (xs : List D) : enumS [.tup xs] = .ok (enumL xs) := rfl
@[simp] theorem enumS_scr (ns : List Int) : enumS [.scr ns] = .ok (enumL (ns.map D.int)) := rfl
theorem enumS_inv (ds : List D) : (∃ d xs, ds = [d] ∧ seqQ d = some xs ∧ enumS ds = .ok (enumL xs)) ∨ enumS ds = .bad := by
  unfold enumS
  split
  · rename_i d
    split
    · rename_i xs h; exact .inl ⟨d, xs, rfl, h, rfl⟩
    · exact .inr rfl
  · exact .inr rfl
section
variable {X : Cx} {W : Wi} {e : Expr} {p pos tpos : Pos} {elts : List Expr} {kk : Nat}
theorem ri_enumS {fa : Env → Res (List D)} (hm : X.mg "enumerate" = none) (ha : RA X W [e] fa) (hg : Gl X "enumerate" := by rfl) (hs : starEach [e] X.env = [(false, eval e X.env)] := by rfl) :
    RI X W true (.Tuple elts kk tpos) (.Call (.Name "enumerate" p) [e] [] pos) (fun r => fa r >>= enumS) := by
  refine ⟨fun pins s σ H R I ⟨H0, F0, fp, F, r, m, o⟩ => (pi_enumS hg hm ha hs).run pins s σ H R I ⟨H0, F0, fp, F, r, m, o.bind fun F' H' ds gr o2 vs rv => ?_⟩⟩
  rcases enumS_inv ds with ⟨d, xs, rfl, w, e⟩ | e
  · rw [e] at o2
    cases rv with
    | cons r1 rr =>
      cases rr
      obtain ⟨k, a, ys, rfl, q, ra⟩ := seqQ_rep (Same.refl F') r1 w
      exact ⟨k, a, ys, rfl, q.keep gr.sub, o2 F' H' (Grow.refl gr.sub) _ (WalkD.enumS q ra)⟩
  · rw [e] at o2; exact o2.elim
end
end Mir
namespace Mir
variable [Tn]
/-- images that make a map -/
structure OkI (s g : List Int) (im : List (List Int)) : Prop where
  len : im.length = s.length
  el : ∀ y ∈ im, OkE g y
  nil : ∀ p ∈ s.zip im, timesV g p.1 p.2 = zeroV g
theorem el_of_mod {g x : List Int} (h : OkR g) (hl : x.length = g.length) (hm : ∀ i, i < g.length → ∃ z, x.getD i 0 = z % g.getD i 0) : OkE g x := by
  refine ⟨hl, fun p hp => ?_⟩
  obtain ⟨i, hi⟩ := List.getElem?_of_mem hp
  obtain ⟨g1, g2⟩ := List.getElem?_zip_eq_some.mp hi
  have hi' : i < g.length := (List.getElem?_eq_some_iff.mp g2).1
  obtain ⟨z, e⟩ := hm i hi'
  have t := h.get hi'
  have e1 : x.getD i 0 = p.1 := by rw [List.getD_eq_getElem?_getD, g1]; rfl
  have e2 : g.getD i 0 = p.2 := by rw [List.getD_eq_getElem?_getD, g2]; rfl
  rw [← e1, ← e2, e]
  exact ⟨Int.emod_nonneg _ (by omega), Int.emod_lt_of_pos _ (by omega)⟩
theorem times_el {g x : List Int} {n : Int} (h : OkR g) (hl : x.length = g.length) : OkE g (timesV g n x) := el_of_mod h (timesV_len g x n hl) fun i hi => ⟨_, timesV_at hi hl⟩
/-- the heads -/
def headV (n at_ : Nat) : List Int := (List.range n).map fun k => if k = at_ then 1 else 0
theorem headV_at {n a i : Nat} (hi : i < n) : (headV n a).getD i 0 = if i = a then 1 else 0 := by
  unfold headV
  rw [List.getD_eq_getElem?_getD, List.getElem?_map, List.getElem?_range hi]
  rfl
theorem headV_len (n a : Nat) : (headV n a).length = n := by simp [headV]
theorem OkI.at_ {s g : List Int} {im : List (List Int)} (h : OkI s g im) {i : Nat} (hi : i < s.length) : OkE g (im.getD i []) ∧ timesV g (s.getD i 0) (im.getD i []) = zeroV g := by
  have e1 : s[i]? = some (s.getD i 0) := by rw [List.getD_eq_getElem?_getD, List.getElem?_eq_getElem hi]; rfl
  have e2 : im[i]? = some (im.getD i []) := by rw [List.getD_eq_getElem?_getD, List.getElem?_eq_getElem (by rw [h.len]; exact hi)]; rfl
  exact ⟨h.el _ (List.mem_of_getElem? e2), h.nil (s.getD i 0, im.getD i []) (List.mem_of_getElem? (List.getElem?_zip_eq_some.mpr ⟨e1, e2⟩))⟩
end Mir
namespace Mir
variable [Tn]
theorem el_mod {lo v : List Int} (h : OkE lo v) {p : Nat} (hp : p < lo.length) : v.getD p 0 % lo.getD p 0 = v.getD p 0 := by
  obtain ⟨a, b⟩ := h.get hp
  exact Int.emod_eq_of_lt a b
theorem putV_assoc {rs x y z : List Int} (h1 : x.length = rs.length) (h2 : y.length = rs.length) (h3 : z.length = rs.length) : putV rs (putV rs x y) z = putV rs x (putV rs y z) := by
  have l1 := putV_len h1 h2
  have l2 := putV_len h2 h3
  refine ext_getD (by rw [putV_len l1 h3, putV_len h1 l2]) fun i hi => ?_
  rw [putV_len h1 l2] at hi
  rw [putV_at hi l1 h3, putV_at hi h1 h2, putV_at hi h1 l2, putV_at hi h2 h3, Int.emod_add_emod, Int.add_emod_emod, Int.add_assoc]
theorem head_el {up : List Int} (h : OkR up) (i : Nat) : OkE up (headV up.length i) := el_of_mod h (headV_len _ _) fun j hj => by
  have t := h.get hj
  refine ⟨if j = i then 1 else 0, ?_⟩
  rw [headV_at hj]
  by_cases e : j = i
  · rw [if_pos e, Int.emod_eq_of_lt (by omega) (by omega)]
  · rw [if_neg e]; simp
theorem mul_head {up : List Int} {i j k : Nat} (hj : j < up.length) (hk : (k : Int) ≤ up.getD i 0) (g : OkR up) : (timesV up (k : Nat) (headV up.length i)).getD j 0 = if j = i then (k : Int) % up.getD i 0 else 0 := by
  rw [timesV_at hj (headV_len _ _), headV_at hj]
  by_cases e : j = i
  · subst e; simp
  · simp [e]
theorem times_nil {up : List Int} (g : OkR up) (i : Nat) (hi : i < up.length) : timesV up (up.getD i 0) (headV up.length i) = zeroV up := ext_getD (by rw [timesV_len up _ _ (headV_len _ _)]; simp [zeroV]) fun j hj => by
  have hj : j < up.length := by simpa [zeroV] using hj
  rw [zeroV_at, timesV_at hj (headV_len _ _), headV_at hj]
  by_cases e : j = i
  · subst e; simp
  · simp [e]
theorem putV_comm {rs x y : List Int} (h1 : x.length = rs.length) (h2 : y.length = rs.length) : putV rs x y = putV rs y x := ext_getD (by rw [putV_len h1 h2, putV_len h2 h1]) fun i hi => by
  rw [putV_len h2 h1] at hi
  rw [putV_at hi h1 h2, putV_at hi h2 h1, Int.add_comm]
theorem put_zero {lo v : List Int} (h : OkE lo v) : putV lo v (zeroV lo) = v := by
  have lz : (zeroV lo).length = lo.length := by simp [zeroV]
  refine ext_getD (by rw [putV_len h.len lz, h.len]) fun i hi => ?_
  rw [h.len] at hi
  rw [putV_at hi h.len lz, zeroV_at, Int.add_zero, el_mod h hi]
end Mir
namespace Mir
open PySem PySem.Spec PyProof.Rows L2
variable [Tn]
section
variable {G : GC} {J : L2.St → Prop} {H0 F0 F1 H1 : Hp} {fp : Nat → List Addr} {σ : L2.St} {r : Env}
/-- and taken up again -/
theorem MS.take (hJ : ∀ σ, J σ) (m : MS G J H0 F0 fp F1 σ H1 r) {i : Nat} {v : V} {s : Shape} {o : D} (hv : σ[i]? = some (some v)) (ho : r[i]? = some (.ow s o)) {fp2 : Nat → List Addr} {F2 H2 : Hp} {σ2 : L2.St} {r2 : Env} (m2 : MS G (fun σ => σ[i]? = some (some v)) H1 F1 fp2 F2 σ2 H2 r2) :
    MS G J H0 F0 (fun j => if j = i then fp i else fp2 j) F2 σ2 H2 (r2.set i (.ow s o)) := by
  obtain ⟨⟨w, hw, ow⟩, fr⟩ := m.ow i s o ho
  rw [hv] at hw
  cases hw
  have th := fun a (ha : a ∈ fp i) => ow.there a ha
  have nf : ∀ a ∈ fp i, F2 a = none := fun a ha => by
    cases e : F2 a with
    | none => rfl
    | some u =>
      rcases m2.new a u e with z | z
      · have := (th a ha).1
        rw [this] at z; cases z
      · obtain ⟨u2, e2⟩ := (th a ha).2
        rw [z] at e2; cases e2
  have hi2 : ∀ a ∈ fp i, H1 a ≠ none := fun a ha z => by
    obtain ⟨u2, e2⟩ := (th a ha).2
    rw [z] at e2; cases e2
  refine ⟨hJ _, m.s0.trans m2.s0, m.f0.trans m2.f0, m2.sub, fun a u e => ?_, by simpa using m2.len, fun j d h => ?_, fun j t d h => ?_, fun j k t u d e ne h1 h2 => ?_, m.t0⟩
  · rcases m2.new a u e with z | z
    · exact m.new a u z
    · exact .inr (m.s0.free z)
  · rcases get_set_slot h with ⟨_, x, _⟩ | ⟨_, h⟩
    · cases x
    · exact m2.sh j d h
  · rcases get_set_slot h with ⟨e1, x, _⟩ | ⟨ne, h⟩
    · subst e1
      cases x
      refine ⟨⟨v, m2.jo, ?_⟩, ?_⟩
      · show Own G F2 H2 s v o (if i = i then fp i else fp2 i)
        rw [if_pos rfl]
        exact ow.keep ⟨fun a ha u e => m2.s0.at' a u e fun ps z => ow.nt a ha ps (z ▸ e), m2.f0, fun a ha _ => nf a ha⟩
      · show ∀ a ∈ (if i = i then fp i else fp2 i), H0 a = none
        rw [if_pos rfl]
        exact fr
    · have ne' : ¬ j = i := fun z => ne z.symm
      obtain ⟨⟨w, q1, q2⟩, q3⟩ := m2.ow j t d h
      refine ⟨⟨w, q1, ?_⟩, ?_⟩
      · show Own G F2 H2 t w d (if j = i then fp i else fp2 j)
        rw [if_neg ne']
        exact q2
      · show ∀ a ∈ (if j = i then fp i else fp2 j), H0 a = none
        rw [if_neg ne']
        exact fun a ha => m.s0.free (q3 a ha)
  · show ∀ a ∈ (if j = i then fp i else fp2 j), a ∉ (if k = i then fp i else fp2 k)
    rcases get_set_slot h1 with ⟨e1, _, _⟩ | ⟨n1, h1⟩
    · subst e1
      rcases get_set_slot h2 with ⟨e2, _, _⟩ | ⟨n2, h2⟩
      · exact absurd e2 ne
      · have n2' : ¬ k = i := fun z => n2 z.symm
        rw [if_pos rfl, if_neg n2']
        exact fun a ha hb => hi2 a ha ((m2.ow k u e h2).2 a hb)
    · have n1' : ¬ j = i := fun z => n1 z.symm
      rw [if_neg n1']
      rcases get_set_slot h2 with ⟨e2, _, _⟩ | ⟨n2, h2⟩
      · subst e2
        rw [if_pos rfl]
        exact fun a ha hb => hi2 a hb ((m2.ow j t d h1).2 a ha)
      · have n2' : ¬ k = i := fun z => n2 z.symm
        rw [if_neg n2']
        exact m2.ap j k t u d e ne h1 h2
end
section
variable {X : Cx} {W : Wi} {k : Kd}
abbrev Wi.pin (W : Wi) (i : Nat) (v : V) : Wi := ⟨W.w, fun σ => σ[i]? = some (some v)⟩
end
end Mir
namespace Mir
open PySem PySem.Spec PyProof.Rows L2
variable [Tn]
theorem atI_of {α : Type} {xs : List α} {n : Nat} {x : α} (h : xs[n]? = some x) : atI xs (n : Int) = some x := by
  have l := (List.getElem?_eq_some_iff.mp h).1
  rw [atI_int xs (n : Int) (by omega) (by omega), Int.toNat_natCast]
  exact h
def slotS : Shape → D → Slot
  | .sh, d => .sh d
  | s, d => .ow s d
def nameO (i : Nat) (s : Shape) (d : D) (r : Env) : Res Env := .ok (r.set i (slotS s d))
@[simp] theorem nameO_sh (i : Nat) (d : D) (r : Env) : nameO i .sh d r = .ok (r.set i (.sh d)) := rfl
@[simp] theorem nameO_flat (i : Nat) (d : D) (r : Env) : nameO i .flat d r = .ok (r.set i (.ow .flat d)) := rfl
end Mir
namespace Mir
open PySem PySem.Spec PyProof.Rows L2
variable [Tn]
def IsTI (h : Heap) (v : Value) (ns : List Int) : Prop := ∃ a o items n, v = Value.ref a ∧ h.get? a = some o ∧ o.cls = .type "tuple" ∧ o.data = .seq items n ∧ IntsAre items.toList ns
end Mir
namespace Mir
open PySem PySem.Spec PyProof.Rows L2
variable [Tn]
/-- the items of vs hold the rows ks -/
inductive AllTI (h : Heap) : List Value → List (List Int) → Prop
  | nil : AllTI h [] []
  | cons {v : Value} {k : List Int} {vs : List Value} {ks : List (List Int)} : IsTI h v k → AllTI h vs ks → AllTI h (v :: vs) (k :: ks)
theorem AllTI.len {h : Heap} : ∀ {vs : List Value} {ks : List (List Int)}, AllTI h vs ks → vs.length = ks.length
  | _, _, .nil => rfl
  | _, _, .cons _ t => by rw [List.length_cons, List.length_cons, t.len]
end Mir
namespace Mir
open PySem PySem.Spec PyProof.Rows L2
variable [Tn]
theorem set_len (x : List Int) (i : Nat) (k : Int) : (x.set i k).length = x.length := List.length_set
theorem set_at {x : List Int} {i j : Nat} {k : Int} (hi : i < x.length) : (x.set i k).getD j 0 = if j = i then k else x.getD j 0 := by
  rw [List.getD_eq_getElem?_getD, List.getElem?_set]
  by_cases h : i = j
  · subst h
    rw [if_pos rfl, if_pos hi, if_pos rfl]
    rfl
  · rw [if_neg h, if_neg (fun z => h z.symm), List.getD_eq_getElem?_getD]
theorem set_el {up x : List Int} {i : Nat} {k : Int} (hx : OkE up x) (hi : i < up.length) (h0 : 0 ≤ k) (h1 : k < up.getD i 0) : OkE up (x.set i k) := by
  have hl := hx.len
  refine ⟨by rw [set_len, hl], fun p hp => ?_⟩
  obtain ⟨j, hj, e⟩ := List.getElem_of_mem hp
  rw [List.length_zip, set_len, hl] at hj
  have hj' : j < up.length := by omega
  rw [List.getElem_zip] at e
  have e1 : p.1 = (x.set i k).getD j 0 := by
    rw [← e, List.getD_eq_getElem?_getD, List.getElem?_eq_getElem (by rw [set_len]; omega)]
    rfl
  have e2 : p.2 = up.getD j 0 := by
    rw [← e, List.getD_eq_getElem?_getD, List.getElem?_eq_getElem hj']
    rfl
  rw [e1, e2, set_at (by omega)]
  split
  · rename_i q; subst q; exact ⟨h0, h1⟩
  · exact hx.get hj'
theorem set_same {x : List Int} {i : Nat} (hi : i < x.length) : x.set i (x.getD i 0) = x := ext_getD (set_len _ _ _) fun j hj => by
  rw [set_at hi]
  split
  · rename_i q; rw [q]
  · rfl
theorem set_set (x : List Int) (i : Nat) (k l : Int) : (x.set i k).set i l = x.set i l := by simp
/-- one more at the i-th place -/
theorem set_head {up x : List Int} {i : Nat} {k : Int} (g : OkR up) (hx : OkE up x) (hi : i < up.length) (h0 : 0 ≤ k) (h1 : k + 1 < up.getD i 0) : putV up (x.set i k) (headV up.length i) = x.set i (k + 1) := by
  have hl := hx.len
  have l1 : (x.set i k).length = up.length := by rw [set_len, hl]
  refine ext_getD (by rw [putV_len l1 (headV_len _ _), set_len, hl]) fun j hj => ?_
  rw [set_len, hl] at hj
  rw [putV_at hj l1 (headV_len _ _), set_at (by omega), set_at (by omega), headV_at hj]
  by_cases q : j = i
  · subst q
    rw [if_pos rfl, if_pos rfl, if_pos rfl, Int.emod_eq_of_lt (by omega) h1]
  · rw [if_neg q, if_neg q, if_neg q]
    have := hx.get hj
    rw [Int.emod_eq_of_lt (by omega) (by omega)]
    omega
/-- so many at the i-th place -/
theorem set_heads {up x : List Int} {i k : Nat} (g : OkR up) (hx : OkE up x) (hi : i < up.length) (hz : x.getD i 0 = 0) (h1 : (k : Int) < up.getD i 0) : putV up x (timesV up (k : Nat) (headV up.length i)) = x.set i (k : Nat) := by
  have hl := hx.len
  have tl := timesV_len up (headV up.length i) (k : Nat) (headV_len _ _)
  refine ext_getD (by rw [putV_len hl tl, set_len, hl]) fun j hj => ?_
  rw [set_len, hl] at hj
  rw [putV_at hj hl tl, set_at (by omega), mul_head hj (by omega) g]
  have := hx.get hj
  by_cases q : j = i
  · subst q
    rw [if_pos rfl, if_pos rfl, hz, Int.zero_add, Int.emod_emod_of_dvd _ (Int.dvd_refl _), Int.emod_eq_of_lt (by omega) h1]
  · rw [if_neg q, if_neg q, Int.add_zero, Int.emod_eq_of_lt this.1 this.2]
abbrev Cg (m a b : Int) : Prop := ∃ q, a = b + m * q
/-- what is known of two carries' difference and the labels, at one place -/
structure LabC (up : List Int) (m : Int) (d : List Int → List Int → Int) (H : List Int → Int) (lab : Nat → Int) : Prop where
  coc : ∀ x y z, OkE up x → OkE up y → OkE up z → Cg m (d x y + d (putV up x y) z) (d y z + d x (putV up y z))
  h0 : Cg m (H (zeroV up)) (d (zeroV up) (zeroV up))
  hs : ∀ i x, i < up.length → OkE up x → (∀ j, i < j → x.getD j 0 = 0) → x.getD i 0 + 1 < up.getD i 0 → Cg m (H (putV up x (headV up.length i))) (H x + lab i - d x (headV up.length i))
  wt : ∀ i, i < up.length → Cg m (up.getD i 0 * lab i) (((List.range (up.getD i 0).toNat).map fun k : Nat => d (timesV up (k : Nat) (headV up.length i)) (headV up.length i)).sum)
  od : ∀ i j, i < j → j < up.length → Cg m (d (headV up.length i) (headV up.length j)) (d (headV up.length j) (headV up.length i))
section
variable {up : List Int} {m : Int} {d : List Int → List Int → Int} {H : List Int → Int} {lab : Nat → Int}
def dfD (up : List Int) (d : List Int → List Int → Int) (H : List Int → Int) (x y : List Int) : Int := d x y - (H x + H y - H (putV up x y))
theorem LabC.D_coc (L : LabC up m d H lab) (g : OkR up) {x y z : List Int} (hx : OkE up x) (hy : OkE up y) (hz : OkE up z) : Cg m (dfD up d H x y + dfD up d H (putV up x y) z) (dfD up d H y z + dfD up d H x (putV up y z)) := by
  obtain ⟨q, e⟩ := L.coc x y z hx hy hz
  refine ⟨q, ?_⟩
  unfold dfD
  rw [putV_assoc hx.len hy.len hz.len]
  omega
theorem put0 {x : List Int} (hx : OkE up x) : putV up x (zeroV up) = x := put_zero hx
theorem put0l {x : List Int} (g : OkR up) (hx : OkE up x) : putV up (zeroV up) x = x := by rw [putV_comm (zero_el g).len hx.len, put_zero hx]
theorem LabC.D00 (L : LabC up m d H lab) (g : OkR up) : Cg m (dfD up d H (zeroV up) (zeroV up)) 0 := by
  obtain ⟨q, e⟩ := L.h0
  refine ⟨-q, ?_⟩
  unfold dfD
  rw [put0 (zero_el g), Int.mul_neg]
  omega
theorem LabC.D0y (L : LabC up m d H lab) (g : OkR up) {y : List Int} (hy : OkE up y) : Cg m (dfD up d H (zeroV up) y) 0 := by
  have z := zero_el g
  obtain ⟨q, e⟩ := L.D_coc g z z hy
  obtain ⟨q2, e2⟩ := L.D00 g
  rw [put0 z, put0l g hy] at e
  refine ⟨q2 - q, ?_⟩
  rw [Int.mul_sub]
  omega
theorem LabC.Dx0 (L : LabC up m d H lab) (g : OkR up) {x : List Int} (hx : OkE up x) : Cg m (dfD up d H x (zeroV up)) 0 := by
  have z := zero_el g
  obtain ⟨q, e⟩ := L.D_coc g hx z z
  obtain ⟨q2, e2⟩ := L.D00 g
  rw [put0 z, put0 hx] at e
  refine ⟨q2 + q, ?_⟩
  rw [Int.mul_add]
  omega
theorem LabC.H_head (L : LabC up m d H lab) (g : OkR up) {i : Nat} (hi : i < up.length) : Cg m (H (headV up.length i)) (lab i) := by
  have z := zero_el g
  have he := head_el g i
  have n2 := g.get hi
  obtain ⟨q, e⟩ := L.hs i (zeroV up) hi z (fun j _ => zeroV_at up j) (by rw [zeroV_at]; omega)
  obtain ⟨q2, e2⟩ := L.D0y g he
  rw [put0l g he] at e
  unfold dfD at e2
  rw [put0l g he] at e2
  refine ⟨q - q2, ?_⟩
  rw [Int.mul_sub]
  omega
/-- the places behind i are nought -/
def Low (i : Nat) (x : List Int) : Prop := ∀ j, i < j → x.getD j 0 = 0
theorem LabC.step1 (L : LabC up m d H lab) (g : OkR up) {i : Nat} (hi : i < up.length) {x : List Int} (hx : OkE up x) (hl : Low i x) (h : x.getD i 0 + 1 < up.getD i 0) : Cg m (dfD up d H x (headV up.length i)) 0 := by
  obtain ⟨q, e⟩ := L.hs i x hi hx hl h
  obtain ⟨q2, e2⟩ := L.H_head g hi
  refine ⟨q - q2, ?_⟩
  unfold dfD
  rw [e, e2, Int.mul_sub]
  omega
theorem low_zero (i : Nat) : Low i (zeroV up) := fun j _ => zeroV_at up j
theorem low_set {x : List Int} {i : Nat} {k : Int} (hi : i < x.length) (h : Low i x) : Low i (x.set i k) := fun j hj => by
  rw [set_at hi, if_neg (by omega)]
  exact h j hj
theorem LabC.sums (L : LabC up m d H lab) (g : OkR up) {i : Nat} (hi : i < up.length) : ∀ k : Nat, (k : Int) < up.getD i 0 → Cg m (H ((zeroV up).set i (k : Nat)))
    (H (zeroV up) + (k : Nat) * lab i - ((List.range k).map fun k : Nat => d (timesV up (k : Nat) (headV up.length i)) (headV up.length i)).sum)
  | 0, _ => by
    have e : (zeroV up).set i ((0 : Nat) : Int) = zeroV up := by
      have := set_same (x := zeroV up) (i := i) (by unfold zeroV; simpa using hi)
      rw [zeroV_at] at this
      exact this
    rw [e]
    exact ⟨0, by simp⟩
  | k + 1, hk => by
    have z := zero_el g
    have zl : i < (zeroV up).length := by rw [z.len]; exact hi
    obtain ⟨q, e⟩ := LabC.sums L g hi k (by omega)
    have hx := set_el z hi (k := (k : Nat)) (by omega) (by omega)
    obtain ⟨q2, e2⟩ := L.hs i _ hi hx (low_set zl (low_zero i)) (by rw [set_at zl, if_pos rfl]; omega)
    rw [set_head g z hi (by omega) (by omega)] at e2
    have sh := set_heads (k := k) g z hi (zeroV_at up i) (by omega)
    rw [put0l g (times_el g (headV_len _ _))] at sh
    refine ⟨q2 + q, ?_⟩
    rw [List.range_succ, List.map_append, List.sum_append]
    simp only [List.map_cons, List.map_nil, List.sum_cons, List.sum_nil]
    rw [sh]
    show H ((zeroV up).set i ((k + 1 : Nat) : Int)) = _
    rw [show ((k + 1 : Nat) : Int) = (k : Int) + 1 by omega, e2, e, Int.mul_add, Int.add_mul]
    simp
    omega
/-- the last turn round -/
theorem LabC.wrap0 (L : LabC up m d H lab) (g : OkR up) {i : Nat} (hi : i < up.length) : Cg m (dfD up d H ((zeroV up).set i (up.getD i 0 - 1)) (headV up.length i)) 0 := by
  have z := zero_el g
  have n2 := g.get hi
  obtain ⟨n, hn⟩ : ∃ n : Nat, up.getD i 0 = (n : Int) + 1 := ⟨(up.getD i 0 - 1).toNat, by omega⟩
  obtain ⟨q, e⟩ := L.sums g hi n (by omega)
  obtain ⟨q2, e2⟩ := L.wt i hi
  obtain ⟨q3, e3⟩ := L.H_head g hi
  have sh := set_heads (k := n) g z hi (zeroV_at up i) (by omega)
  rw [put0l g (times_el g (headV_len _ _))] at sh
  have e4 : up.getD i 0 - 1 = (n : Int) := by omega
  have tn : (up.getD i 0).toNat = n + 1 := by omega
  rw [tn, List.range_succ, List.map_append, List.sum_append] at e2
  simp only [List.map_cons, List.map_nil, List.sum_cons, List.sum_nil] at e2
  rw [sh, hn, Int.add_mul] at e2
  have back : putV up ((zeroV up).set i (n : Int)) (headV up.length i) = zeroV up := by
    rw [← sh, times_succ (headV_len _ _), show ((n + 1 : Nat) : Int) = up.getD i 0 by omega, times_nil g i hi]
  rw [e4]
  unfold dfD
  rw [back]
  refine ⟨-q2 - q - q3, ?_⟩
  rw [Int.mul_sub, Int.mul_sub, Int.mul_neg, e, e3]
  omega
theorem LabC.base (L : LabC up m d H lab) (g : OkR up) {i : Nat} (hi : i < up.length) {b : List Int} (hb : OkE up b) (hl : Low i b) (h0 : b.getD i 0 = 0) : ∀ k : Nat, (k : Int) < up.getD i 0 → Cg m (dfD up d H b ((zeroV up).set i (k : Nat))) 0
  | 0, _ => by
    have e : (zeroV up).set i ((0 : Nat) : Int) = zeroV up := by
      have := set_same (x := zeroV up) (i := i) (by unfold zeroV; simpa using hi)
      rw [zeroV_at] at this
      exact this
    rw [e]
    exact L.Dx0 g hb
  | k + 1, hk => by
    have z := zero_el g
    have bl : i < b.length := by rw [hb.len]; exact hi
    have zl : i < (zeroV up).length := by rw [z.len]; exact hi
    obtain ⟨q, e⟩ := LabC.base L g hi hb hl h0 k (by omega)
    have hx := set_el z hi (k := (k : Nat)) (by omega) (by omega)
    obtain ⟨q2, e2⟩ := L.D_coc g hb hx (head_el g i)
    have sh := set_heads (k := k) g z hi (zeroV_at up i) (by omega)
    rw [put0l g (times_el g (headV_len _ _))] at sh
    have sb := set_heads (k := k) g hb hi h0 (by omega)
    have eb : putV up b ((zeroV up).set i (k : Nat)) = b.set i (k : Nat) := by rw [← sh]; exact sb
    rw [eb, set_head g z hi (by omega) (by omega)] at e2
    have bk := set_el hb hi (k := (k : Nat)) (by omega) (by omega)
    obtain ⟨q3, e3⟩ := L.step1 g hi bk (low_set bl hl) (by rw [set_at bl, if_pos rfl]; omega)
    obtain ⟨q4, e4⟩ := L.step1 g hi hx (low_set zl (low_zero i)) (by rw [set_at zl, if_pos rfl]; omega)
    show Cg m (dfD up d H b ((zeroV up).set i ((k + 1 : Nat) : Int))) 0
    rw [show ((k + 1 : Nat) : Int) = (k : Int) + 1 by omega]
    refine ⟨q + q3 - q4 - q2, ?_⟩
    rw [Int.mul_sub, Int.mul_sub, Int.mul_add]
    omega
/-- by a head whose place is the last -/
theorem LabC.S (L : LabC up m d H lab) (g : OkR up) {i : Nat} (hi : i < up.length) {x : List Int} (hx : OkE up x) (hl : Low i x) : Cg m (dfD up d H x (headV up.length i)) 0 := by
  have n2 := g.get hi
  have z := zero_el g
  obtain ⟨x0, x1⟩ := hx.get hi
  have xl : i < x.length := by rw [hx.len]; exact hi
  by_cases h : x.getD i 0 + 1 < up.getD i 0
  · exact L.step1 g hi hx hl h
  · obtain ⟨n, hn⟩ : ∃ n : Nat, x.getD i 0 = (n : Int) := ⟨(x.getD i 0).toNat, by omega⟩
    have hb := set_el hx hi (k := 0) (by omega) (by omega)
    have b0 : (x.set i 0).getD i 0 = 0 := by rw [set_at xl, if_pos rfl]
    have bl := low_set (k := 0) xl hl
    obtain ⟨q, e⟩ := L.base g hi hb bl b0 n (by omega)
    have sh := set_heads (k := n) g z hi (zeroV_at up i) (by omega)
    rw [put0l g (times_el g (headV_len _ _))] at sh
    have zx := set_el z hi (k := (n : Nat)) (by omega) (by omega)
    obtain ⟨q2, e2⟩ := L.D_coc g hb zx (head_el g i)
    have sb := set_heads (k := n) g hb hi b0 (by omega)
    have eb : putV up (x.set i 0) ((zeroV up).set i (n : Nat)) = x := by rw [← sh, sb, set_set, ← hn, set_same xl]
    have back : putV up ((zeroV up).set i (n : Int)) (headV up.length i) = zeroV up := by
      rw [← sh, times_succ (headV_len _ _), show ((n + 1 : Nat) : Int) = up.getD i 0 by omega, times_nil g i hi]
    obtain ⟨q3, e3⟩ := L.wrap0 g hi
    rw [show up.getD i 0 - 1 = (n : Int) by omega] at e3
    obtain ⟨q4, e4⟩ := L.Dx0 g hb
    rw [eb, back] at e2
    refine ⟨q2 + q3 + q4 - q, ?_⟩
    rw [Int.mul_sub, Int.mul_add, Int.mul_add]
    omega
theorem low_head {i j : Nat} (h : i ≤ j) : Low j (headV up.length i) := fun k hk => by
  by_cases q : k < up.length
  · rw [headV_at q, if_neg (by omega)]
  · rw [List.getD_eq_getElem?_getD, List.getElem?_eq_none (by rw [headV_len]; omega)]
    rfl
theorem LabC.heads2 (L : LabC up m d H lab) (g : OkR up) {i j : Nat} (hij : i < j) (hj : j < up.length) : Cg m (dfD up d H (headV up.length i) (headV up.length j)) 0 ∧ Cg m (dfD up d H (headV up.length j) (headV up.length i)) 0 := by
  obtain ⟨q, e⟩ := L.S g hj (head_el g i) (low_head (by omega))
  refine ⟨⟨q, e⟩, ?_⟩
  obtain ⟨q2, e2⟩ := L.od i j hij hj
  unfold dfD at e ⊢
  refine ⟨q - q2, ?_⟩
  rw [putV_comm (headV_len _ _) (headV_len _ _), Int.mul_sub]
  omega
theorem low_put {x y : List Int} {j : Nat} (g : OkR up) (hx : OkE up x) (hy : OkE up y) (h1 : Low j x) (h2 : Low j y) : Low j (putV up x y) := fun k hk => by
  by_cases q : k < up.length
  · rw [putV_at q hx.len hy.len, h1 k hk, h2 k hk]
    simp
  · rw [List.getD_eq_getElem?_getD, List.getElem?_eq_none (by rw [putV_len hx.len hy.len]; omega)]
    rfl
/-- by a head, whatever stands behind it -/
theorem LabC.T (L : LabC up m d H lab) (g : OkR up) {i : Nat} (hi : i < up.length) : ∀ j : Nat, i ≤ j → j < up.length → ∀ (n : Nat) (x : List Int), OkE up x → Low j x → x.getD j 0 = (n : Int) → Cg m (dfD up d H x (headV up.length i)) 0 := by
  intro j
  induction j with
  | zero =>
    intro hij hj n x hx hl _
    have : i = 0 := by omega
    subst this
    exact L.S g hi hx hl
  | succ j ih =>
    intro hij hj n
    by_cases q : i = j + 1
    · subst q
      intro x hx hl _
      exact L.S g hi hx hl
    · induction n with
      | zero =>
        intro x hx hl h0
        refine ih (by omega) (by omega) (x.getD j 0).toNat x hx (fun k hk => ?_) ?_
        · by_cases r : k = j + 1
          · subst r; exact h0
          · exact hl k (by omega)
        · have := hx.get (i := j) (by omega)
          omega
      | succ n ihn =>
        intro x hx hl hn
        have xl : j + 1 < x.length := by rw [hx.len]; exact hj
        have xb := hx.get hj
        have hx' := set_el hx hj (k := (n : Int)) (by omega) (by omega)
        have l' := low_set (k := (n : Int)) xl hl
        have a0 := ihn _ hx' l' (by rw [set_at xl, if_pos rfl])
        have hj1 := head_el g (j + 1)
        have hi1 := head_el g i
        obtain ⟨q1, e1⟩ := a0
        obtain ⟨q2, e2⟩ := L.D_coc g hx' hj1 hi1
        obtain ⟨q3, e3⟩ := L.D_coc g hx' hi1 hj1
        obtain ⟨q4, e4⟩ := L.S g hj hx' l'
        obtain ⟨q5, e5⟩ := L.S g hj (put_el g hx'.len hi1.len) (low_put g hx' hi1 l' (low_head (by omega)))
        obtain ⟨⟨q6, e6⟩, q7, e7⟩ := L.heads2 g (i := i) (j := j + 1) (by omega) hj
        rw [set_head g hx hj (by omega) (by omega), show (n : Int) + 1 = x.getD (j + 1) 0 by omega, set_same xl, putV_comm hj1.len hi1.len] at e2
        refine ⟨q2 - q4 + q7 + q1 + q5 - q6 - q3, ?_⟩
        simp only [Int.mul_sub, Int.mul_add]
        omega
theorem LabC.all_heads (L : LabC up m d H lab) (g : OkR up) {i : Nat} (hi : i < up.length) {x : List Int} (hx : OkE up x) : Cg m (dfD up d H x (headV up.length i)) 0 := by
  have hn : up.length - 1 < up.length := by omega
  refine L.T g hi (up.length - 1) (by omega) hn (x.getD (up.length - 1) 0).toNat x hx (fun j hj => ?_) (by have := hx.get hn; omega)
  rw [List.getD_eq_getElem?_getD, List.getElem?_eq_none (by rw [hx.len]; omega)]
  rfl
theorem sum_set : ∀ (x : List Int) (i : Nat) (k : Int), i < x.length → (x.set i k).sum = x.sum - x.getD i 0 + k
  | [], _, _, h => by simp at h
  | a :: x, 0, k, _ => by simp; omega
  | a :: x, i + 1, k, h => by
    have := sum_set x i k (by simpa using h)
    simp at this ⊢
    omega
/-- .. and so by all -/
theorem LabC.all (L : LabC up m d H lab) (g : OkR up) : ∀ (n : Nat) (y : List Int), OkE up y → y.sum = (n : Int) → ∀ x, OkE up x → Cg m (dfD up d H x y) 0 := by
  intro n
  induction n with
  | zero =>
    intro y hy hs x hx
    have e : y = zeroV up := by
      refine ext_getD (by rw [hy.len]; unfold zeroV; simp) fun i hi => ?_
      rw [zeroV_at]
      have hi : i < up.length := by unfold zeroV at hi; simpa using hi
      by_cases q : y.getD i 0 = 0
      · exact q
      · have nn : ∀ z : List Int, (∀ i, i < z.length → 0 ≤ z.getD i 0) → 0 ≤ z.sum := fun z => by
          induction z with
          | nil => intro _; simp
          | cons a z ih =>
            intro h
            have h0 := h 0 (by simp)
            have h1 := ih fun i hi => by have := h (i + 1) (by simpa using hi); simpa using this
            simp at h0 ⊢
            omega
        have yl : i < y.length := by rw [hy.len]; exact hi
        have p := nn (y.set i 0) fun j hj => by
          rw [set_at yl]
          split
          · omega
          · rw [set_len] at hj
            exact (hy.get (by rw [← hy.len]; exact hj)).1
        rw [sum_set y i 0 yl] at p
        have := hy.get hi
        omega
    rw [e]
    exact L.Dx0 g hx
  | succ n ih =>
    intro y hy hs x hx
    obtain ⟨i, hi, h1⟩ : ∃ i, i < up.length ∧ 1 ≤ y.getD i 0 := by
      by_cases q : ∃ i, i < up.length ∧ 1 ≤ y.getD i 0
      · exact q
      · exfalso
        have np : ∀ z : List Int, (∀ i, i < z.length → z.getD i 0 ≤ 0) → z.sum ≤ 0 := fun z => by
          induction z with
          | nil => intro _; simp
          | cons a z ih =>
            intro h
            have h0 := h 0 (by simp)
            have h1 := ih fun i hi => by have := h (i + 1) (by simpa using hi); simpa using this
            simp at h0 ⊢
            omega
        have := np y fun i hi => by
          by_cases r : 1 ≤ y.getD i 0
          · exact absurd ⟨i, by rw [← hy.len]; exact hi, r⟩ q
          · omega
        omega
    have yl : i < y.length := by rw [hy.len]; exact hi
    have yb := hy.get hi
    have hy' := set_el hy hi (k := y.getD i 0 - 1) (by omega) (by omega)
    obtain ⟨q1, e1⟩ := ih _ hy' (by rw [sum_set y i _ yl]; omega) x hx
    obtain ⟨q2, e2⟩ := L.D_coc g hx hy' (head_el g i)
    obtain ⟨q3, e3⟩ := L.all_heads g hi (put_el g hx.len hy'.len)
    obtain ⟨q4, e4⟩ := L.all_heads g hi hy'
    rw [set_head g hy hi (by omega) (by omega), show y.getD i 0 - 1 + 1 = y.getD i 0 by omega, set_same yl] at e2
    refine ⟨q1 + q3 - q4 - q2, ?_⟩
    simp only [Int.mul_sub, Int.mul_add]
    omega
end
end Mir
namespace Mir
open PySem PySem.Spec PyProof.Rows L2
variable [Tn]
abbrev ZRec (h : Heap) (z TI TO : Addr) (f0 f1 : Value) : Prop :=
  h.get? z = some { cls := .type "zip", dict := none, data := .fields #[f0, f1, .bool false, .ref TI, .ref TO], slots := #[] }
section
variable {prog : Program} {w : World} {A : Around} {E : Value → Shared → Prop} {s : Shared}
/-- a zip between two turns: nothing given out, or a tuple that is still there or gone -/
def ZSt (h : Heap) (z TI TO : Addr) : Prop := ZRec h z TI TO .none (.bool false) ∨ ∃ (T : Addr) (f : Bool), ZRec h z TI TO (rawInt T) (.bool f)
end
end Mir
namespace Mir
open PySem PySem.Spec PyProof.Rows L2
variable [Tn]
/-- what a turn of the zip leaves -/
structure ZAll (h : Heap) (z TI TO i1 i2 l1 l2 : Addr) (k1 k2 : Bool) (p : Nat) : Prop where
  st : ZSt h z TI TO
  ti : IsT h TI #[.ref i1, .ref i2]
  to_ : ∃ o1 o2 : Value, IsT h TO #[o1, o2]
  n1 : SIt h k1 i1 l1 p
  n2 : SIt h k2 i2 l2 p
theorem ZSt.at {h h' : Heap} {z TI TO : Addr} (x : ZSt h z TI TO) (f : ∀ o, h.get? z = some o → h'.get? z = some o) : ZSt h' z TI TO := by
  rcases x with x | ⟨T, g, x⟩
  · exact .inl (f _ x)
  · exact .inr ⟨T, g, f _ x⟩
theorem ZSt.ob {h : Heap} {z TI TO : Addr} (x : ZSt h z TI TO) : ∃ o, h.get? z = some o ∧ ∀ v, o.data ≠ .cell v := by
  rcases x with x | ⟨T, g, x⟩
  · exact ⟨_, x, fun v q => nomatch q⟩
  · exact ⟨_, x, fun v q => nomatch q⟩
theorem ZSt.lt {h : Heap} {z TI TO : Addr} (x : ZSt h z TI TO) : z < h.objs.size := let ⟨_, e, _⟩ := x.ob; Heap.lt_size e
section
variable {h h' : Heap} {z TI TO i1 i2 l1 l2 : Addr} {k1 k2 : Bool} {p : Nat}
theorem ZAll.at (x : ZAll h z TI TO i1 i2 l1 l2 k1 k2 p) (f : ∀ b, (b = z ∨ b = TI ∨ b = TO ∨ b = i1 ∨ b = i2) → ∀ o, h.get? b = some o → h'.get? b = some o) : ZAll h' z TI TO i1 i2 l1 l2 k1 k2 p where
  st := x.st.at (f z (.inl rfl))
  ti := f TI (.inr (.inl rfl)) _ x.ti
  to_ := let ⟨o1, o2, e⟩ := x.to_; ⟨o1, o2, f TO (.inr (.inr (.inl rfl))) _ e⟩
  n1 := x.n1.at (f i1 (.inr (.inr (.inr (.inl rfl)))))
  n2 := x.n2.at (f i2 (.inr (.inr (.inr (.inr rfl)))))
theorem ZAll.lt (x : ZAll h z TI TO i1 i2 l1 l2 k1 k2 p) {b : Addr} (hb : b = z ∨ b = TI ∨ b = TO ∨ b = i1 ∨ b = i2) : b < h.objs.size := by
  obtain ⟨o1, o2, e⟩ := x.to_
  rcases hb with q | q | q | q | q
  · rw [q]; exact x.st.lt
  · rw [q]; exact Heap.lt_size x.ti
  · rw [q]; exact Heap.lt_size e
  · rw [q]; exact x.n1.lt
  · rw [q]; exact x.n2.lt
end
end Mir
namespace Mir
open PySem PySem.Spec PyProof.Rows L2
variable [Tn]
section
variable {X : Cx} {W : Wi} {k : Nat}
@[simp] def tupRevD : D → Res D
  | .tup xs => .ok (.tup xs.reverse)
  | _ => .bad
end
end Mir
namespace Mir
open PySem PySem.Spec PyProof.Rows L2
variable [Tn]
def capsD : List Nat → Env → Res (List D)
  | [], _ => .ok []
  | j :: js, r => getS j r >>= fun d => capsD js r >>= fun ds => .ok (d :: ds)
@[simp] theorem capsD_nil (r : Env) : capsD [] r = .ok [] := rfl
@[simp] theorem capsD_cons (j : Nat) (js : List Nat) (r : Env) : capsD (j :: js) r = (getS j r >>= fun d => capsD js r >>= fun ds => .ok (d :: ds)) := rfl
end Mir
namespace Mir
open PySem PySem.Spec PyProof.Rows L2
variable [Tn]
section
variable {X : Cx} {W : Wi}
theorem Own.opts {G : GC} {F H : Hp} {l : List Shape} {v : V} {d : D} {A : List Addr} (h : Own G F H (.parts l) v d A) : Own G F H (.opts l) v d A := by
  cases h with
  | lst h0 h1 h2 h3 h4 => exact .lst rfl h1 h2 h3 h4
  | tup h0 h1 h2 h3 h4 => exact .tup rfl h1 h2 h3 h4
  | dic h0 h1 h2 z1 z2 z3 z4 z5 h3 h4 => exact .dic rfl h1 h2 z1 z2 z3 z4 z5 h3 h4
  | obj h0 h1 h2 z h3 h4 => exact .obj rfl h1 h2 z h3 h4
end
end Mir
namespace Mir
open PySem PySem.Spec PyProof.Rows L2
variable [Tn]
section
variable {X : Cx} {W : Wi} {k : Kd}
theorem PG.or {e : Expr} {t1 t2 : TG} (h1 : PG X e t1) (h2 : PG X e t2) : PG X e (fun v σ H Q => t1 v σ H Q ∨ t2 v σ H Q) :=
  ⟨fun pins s σ H v u Q I r hw => hw.elim (fun h => h1.run pins s σ H v u Q I r h) fun h => h2.run pins s σ H v u Q I r h⟩
end
end Mir
namespace Mir
open PySem PySem.Spec PyProof.Rows L2
variable [Tn]
/-- part by part the same -/
def eqTs : List D → List D → Bool
  | [], [] => true
  | a :: as, b :: bs => (match eqD a b with
    | .ok (.bl true) => true
    | _ => false) && eqTs as bs
  | _, _ => false
def eqTD (a b : D) : Res D := match a, b with
  | .tup xs, .tup ys => if eqTs xs ys = true then .ok (.bl true) else .bad
  | _, _ => .bad
theorem ne_eqTD : NoEr2 eqTD := fun a b e z => by unfold eqTD at z; split at z <;> (try split at z) <;> cases z
section
variable {X : Cx} {pins : List (Addr × Obj)} {σ : L2.St} {H F : Hp} {s : Shared} {k : Nat} {A : Around}
theorem eqT_ofA (I : L2.Inv X pins σ H s) (sF : Same F H) (hr : A.in1.units + 64 < cLine) {v u : V} {x y : Value} {d e : D} {b : Bool} (h : eqS d e = .ok (.bl b)) (rv : Rep (gOf X) F v d) (ru : Rep (gOf X) F u e) (hx : RelV v x) (hy : RelV u y) : EqT X.prog X.w A.in1 s x y b := by
  unfold eqS at h
  split at h
  · rename_i p q h1 h2
    split at h
    · rename_i hs
      injection h with h
      injection h with h
      subst h
      obtain ⟨as, r1⟩ := Dp.reads I p v x (rv.dp sF h1) hx
      obtain ⟨bs, r2⟩ := Dp.reads I q u y (ru.dp sF h2) hy
      have z := PySem.W.keq_at (A := A) r1 r2 hs.1 hs.2 hr
      exact fun E Q hq => z X.prog X.w E Q hq
    · cases h
  · cases h
theorem hits_ofA (I : L2.Inv X pins σ H s) (sF : Same F H) (hr : A.in1.units + 64 < cLine) {ys : List EN} {us : List V} {ks2 vs2 : List D} (h2 : DR (gOf X) F ys us ks2 vs2) : ∀ {xs : List EN} {ws : List V} {ks vs : List D} {b : Bool}, DR (gOf X) F xs ws ks vs → sameK ks vs ks2 vs2 = some b → HitsH X.prog X.w A.in1 s ys xs b
  | xs, ws, ks, vs, b, h, e => by
    rcases h.shape with ⟨rfl, rfl, rfl, rfl⟩ | ⟨x, xs', w, ws', k, ks', v, vs', rfl, rfl, rfl, rfl⟩
    · simp [sameK] at e
      subst e
      exact .nil
    · obtain ⟨t, e1, e2, e3, e4⟩ := h.tail
      rw [sameK, e3] at e
      simp only at e
      rcases getK_at (q := x.1) h2.wv h2.ke h2.vr with ⟨z1, z2⟩ | ⟨d, en, u, z1, z2, z3, z4⟩
      · rw [z1] at e
        cases e
        exact .miss z2
      · rw [z1] at e
        simp only at e
        split at e
        · rename_i he
          exact .hit z2 (eqT_ofA I sF hr he e4 z4 e1 z3) (hits_ofA I sF hr h2 t e)
        · rename_i he
          cases e
          exact .not z2 (eqT_ofA I sF hr he e4 z4 e1 z3)
        · cases e
theorem eqIn_self (p : Addr) : SeqAt.EqIn X.prog X.w A s (.ref p) (.ref p) true := fun E Q hq => by
  unfold eqBool
  refine wpAny_holding ?_
  refine wpAny_ite_split (fun _ => ?_) (fun h => absurd (by simp) h)
  exact wpAny_bind (wpAny_rule (wpAny_pure hq))
theorem el_eqT (I : L2.Inv X pins σ H s) (sF : Same F H) (hu : A.units + 100 < cLine) {v u : V} {x y : Value} {d e : D} (h : eqD d e = .ok (.bl true)) (rv : Rep (gOf X) F v d) (ru : Rep (gOf X) F u e) (hx : RelV v x) (hy : RelV u y) : SeqAt.EqIn X.prog X.w A.in1 s x y true := by
  have u1 : A.in1.units = A.units + 1 := rfl
  have u2 : A.in1.in1.units = A.units + 2 := rfl
  unfold eqD at h
  split at h
  · rename_i ks vs ks2 vs2
    split at h <;> cases h
    rename_i hb
    obtain ⟨p, o, xs, ws, rfl, h1, h2, h3, h4⟩ := RdD.dr sF (show RdD (gOf X) F H v _ from .inl rv)
    obtain ⟨p', o', xs', ws', rfl, h1', h2', h3', h4'⟩ := RdD.dr sF (show RdD (gOf X) F H u _ from .inl ru)
    cases hx
    cases hy
    by_cases hp : p = p'
    · subst hp
      exact eqIn_self p
    · unfold sameD at hb
      rw [← h4.len, ← h4'.len] at hb
      split at hb
      · rename_i hl
        refine SeqAt.EqIn.of_refs hp fun E Q hq => ?_
        refine cmpH (A := A.in1) (op := .Eq) (b := true) (.inl ⟨rfl, rfl⟩) (by show A.in1.in1.units + 8 < cLine; omega) (by omega) h2 h2' (dr_of I sF h1 h3 h4) (dr_of I sF h1' h3' h4') (fun _ => hits_ofA (A := A.in1) I sF (by omega) h4' h4 hb) ?_
        rw [hl, beq_self_eq_true, Bool.true_and]
        exact hq
      · cases hb
  · exact fun E Q hq => eqT_ofA (A := A) I sF (by omega) h rv ru hx hy E Q hq
theorem eqTs_len : ∀ {xs ys : List D}, eqTs xs ys = true → xs.length = ys.length
  | [], [], _ => rfl
  | [], _ :: _, h => by cases h
  | _ :: _, [], h => by cases h
  | a :: as, b :: bs, h => by
    unfold eqTs at h
    rw [Bool.and_eq_true] at h
    rw [List.length_cons, List.length_cons, eqTs_len h.2]
theorem eqTs_at : ∀ {xs ys : List D} {i : Nat} {a b : D}, eqTs xs ys = true → xs[i]? = some a → ys[i]? = some b → eqD a b = .ok (.bl true)
  | [], [], i, a, b, _, h1, _ => by simp at h1
  | [], _ :: _, _, _, _, h, _, _ => by cases h
  | _ :: _, [], _, _, _, h, _, _ => by cases h
  | c :: as, d :: bs, 0, a, b, h, h1, h2 => by
    simp at h1 h2
    subst h1 h2
    unfold eqTs at h
    rw [Bool.and_eq_true] at h
    have := h.1
    split at this
    · rename_i e; exact e
    · cases this
  | c :: as, d :: bs, i + 1, a, b, h, h1, h2 => by
    unfold eqTs at h
    rw [Bool.and_eq_true] at h
    exact eqTs_at h.2 (by simpa using h1) (by simpa using h2)
def rTT (X : Cx) (P : Hp → Prop) : V → V → Hp → Prop := fun x y H => ∃ (F : Hp) (p p2 : Addr) (vs us : List V) (ds es : List D), x = .ref p ∧ y = .ref p2 ∧ Same F H ∧ SqT X.K H p vs ∧ SqT X.K H p2 us ∧ RepAll (gOf X) F vs ds ∧ RepAll (gOf X) F us es ∧ eqTs ds es = true ∧ P H
theorem op_eqTD (hr : Room k X.A) : OpR X (compareOp .Eq) (fun x y H Q => rTT X (fun H => Q (.bl true) H) x y H) := by
  intro pins s σ H x y u1 u2 Q I r1 r2 h
  obtain ⟨F, p, p2, vs, us, ds, es, rfl, rfl, sF, h1, h2, rv, ru, he, hq⟩ := h
  cases r1
  cases r2
  have hu := hr.un
  obtain ⟨its, rvs, hl, _⟩ := I.tuple h1
  obtain ⟨its2, rus, hl2, _⟩ := I.tuple h2
  have len : ∀ {vs : List V} {its : List Value}, Vals vs its → vs.length = its.length := fun {vs its} h => by
    induction h with
    | nil => rfl
    | cons _ _ ih => rw [List.length_cons, List.length_cons, ih]
  have at_ : ∀ {vs : List V} {its : List Value}, Vals vs its → ∀ {i : Nat} {v : V}, vs[i]? = some v → ∃ u, its[i]? = some u ∧ RelV v u := fun {vs its} h => by
    induction h with
    | nil => intro i v e; simp at e
    | cons r _ ih =>
      intro i v e
      cases i with
      | zero => simp at e; subst e; exact ⟨_, rfl, r⟩
      | succ i => exact (ih (i := i) (v := v) (by simpa using e)).imp fun u q => ⟨by simpa using q.1, q.2⟩
  have e1 := len rvs
  have e2 := len rus
  have e3 := rv.length
  have e4 := ru.length
  have e5 := eqTs_len he
  refine SeqAt.rcIn_tuples (e := fun _ => true) hl hl2 (by omega) (fun j q1 q2 => ?_) ⟨.bl true, H, I, ?_, hq⟩
  · have q1' : j < its.length := by simpa using q1
    have q2' : j < its2.length := by simpa using q2
    have g1 : vs[j]? = some vs[j] := List.getElem?_eq_getElem (by omega)
    have g2 : us[j]? = some us[j] := List.getElem?_eq_getElem (by omega)
    obtain ⟨d, d1, d2⟩ := rv.getV g1
    obtain ⟨f, f1, f2⟩ := ru.getV g2
    obtain ⟨w1, w2, w3⟩ := at_ rvs g1
    obtain ⟨z1, z2, z3⟩ := at_ rus g2
    have := el_eqT (A := X.A) I sF (by omega) (eqTs_at he d1 f1) d2 f2 w3 z3
    have i1 : its.toArray[j] = w1 := by
      have := List.getElem?_eq_getElem q1'
      rw [w2] at this
      simpa using (Option.some.inj this).symm
    have i2 : its2.toArray[j] = z1 := by
      have := List.getElem?_eq_getElem q2'
      rw [z2] at this
      simpa using (Option.some.inj this).symm
    rw [i1, i2]
    exact this
  · have : its.toArray.size = its2.toArray.size := by simp; omega
    have hA : ((List.range (min its.toArray.size its2.toArray.size)).all (fun _ => true) && its.toArray.size == its2.toArray.size) = true := by
      rw [this]
      simp
    show RelV (.bl true) (.bool _)
    rw [hA]
    rfl
theorem eqTD_ok : OpD (gOf X) (fun x y H Q => rTT X (fun H => Q (.bl true) H) x y H) .R .R .S eqTD := fun F H x y a b d Q Ha Hb s ka kb e k => by
  unfold eqTD at e
  split at e
  · rename_i xs ys
    split at e <;> cases e
    rename_i he
    obtain ⟨p, vs, rfl, h1, h2⟩ := (show RdD (gOf X) F H x (.tup xs) from ka).tup s
    obtain ⟨p', vs', rfl, h1', h2'⟩ := (show RdD (gOf X) F H y (.tup ys) from kb).tup s
    exact ⟨F, p, p', vs, vs', xs, ys, rfl, rfl, s, h1, h1', h2, h2', he, k _ F H (Grow.refl s) (Rep.bl _)⟩
  · cases e
theorem c_eqT (hr : Room k X.A) : Cmp X .Eq eqTD := ⟨⟨_, op_eqTD hr, eqTD_ok⟩, ne_eqTD⟩
end
end Mir
namespace Mir
open PySem PySem.Spec PyProof.Rows L2
variable [Tn]
/-- a list taken apart -/
def lstG (n : Nat) (gs : List D → Env → Res Env) : D → Env → Res Env := fun d r => match d with
  | .lst ds => if ds.length = n then gs ds r else .bad
  | _ => .bad
@[simp] theorem lstG_lst (n : Nat) (gs : List D → Env → Res Env) (ds : List D) (r : Env) : lstG n gs (.lst ds) r = if ds.length = n then gs ds r else .bad := rfl
section
variable {X : Cx} {J : L2.St → Prop}
theorem gL {es : List Expr} {kk : Nat} {pos : Pos} {gs : List D → Env → Res Env} (n : Nat) (hc : X.calm = true) (h : RGs X J es gs) (hn : (assignEach es X.env).length = n := by rfl) (hst : (assignEach es X.env).findIdx? (·.1) = none := by rfl) :
    RG X J (.Tuple es kk pos) (lstG n gs) :=
  PG.imp (pg_lst hc h hn hst) fun v σ H Q ⟨H0, F0, fp, F, r, d, m, rv, r', e, q⟩ => by
    cases rv with
    | @lst a vs ds hF ra =>
      have e' : (if ds.length = n then gs ds r else .bad) = .ok r' := e
      split at e'
      · rename_i hl
        exact ⟨a, vs, rfl, .of (m.sub _ _ hF), by rw [ra.length]; exact hl, H0, F0, fp, F, r, ds, m, ra, r', e', q⟩
      · cases e'
    | _ => cases e
end
end Mir
namespace Mir
open PySem PySem.Spec PyProof.Rows L2
variable [Tn]
def revD : D → Res D
  | .lst ds => .ok (.lst ds.reverse)
  | _ => .bad
section
variable {X : Cx} {W : Wi}
theorem re_rev {k : Nat} {e : Expr} {fe : Env → Res D} {p1 p2 p3 pos : Pos} (he : RE X W .R e fe) : RE X W (.O .flat) (.Subscript e (.Slice none none (some (.UnaryOp .USub (.Constant (.int 1) k p1) p2)) p3) pos) (fun r => fe r >>= revD) :=
  (pe_revL he).imp fun σ H Q ⟨H0, F0, fp, F, r, m, o⟩ => ⟨H0, F0, fp, F, r, m, o.bind fun F' H' d gr o2 v kv => by
    unfold revD at o2
    split at o2
    · rename_i ds
      obtain ⟨a, vs, rfl, h1, r1⟩ := (show RdD (gOf X) F' H' v _ from kv).lst gr.sub
      refine ⟨a, vs, rfl, .of h1, fun p hp => ?_⟩
      exact o2 _ _ (Grow.own gr.sub hp) _ ⟨[p], Own.lst rfl upd_same (gr.sub.free hp) (OwnAll.of_rep r1.reverse) (by simp), fun b hb => by rw [List.mem_singleton.mp hb]; exact gr.h.free hp⟩
    · exact o2.elim⟩
end
end Mir
namespace Mir
open PySem PySem.Spec PyProof.Rows L2
variable [Tn]
/-- the texts of a row -/
def strsOf : List D → Option (List Str)
  | [] => some []
  | .str z :: ds => (strsOf ds).map (z :: ·)
  | _ => none
theorem strsOf_map : ∀ ys : List Str, strsOf (ys.map D.str) = some ys
  | [] => rfl
  | y :: ys => by rw [List.map_cons, strsOf, strsOf_map ys]; rfl
theorem strsOf_rep {G : GC} {F : Hp} : ∀ {vs : List V} {ds : List D} {ys : List Str}, strsOf ds = some ys → RepAll G F vs ds → vs = ys.map V.str
  | _, _, _, e, .nil => by cases e; rfl
  | v :: vs, d :: ds, ys, e, .cons r rs => by
    unfold strsOf at e
    split at e
    · rename_i h; cases h
    · rename_i z ds' h
      injection h with h1 h2
      subst h1 h2
      rw [Option.map_eq_some_iff] at e
      obtain ⟨ys', e1, rfl⟩ := e
      rw [strsOf_rep e1 rs]
      cases r
      rfl
    · cases e
def isTxt : D → Res D
  | .str z => .ok (.str z)
  | _ => .bad
@[simp] theorem isTxt_str (z : Str) : isTxt (.str z) = .ok (.str z) := rfl
def joinD (a d : D) : Res D := match a, d with
  | .str s, .lst ds => match strsOf ds with
    | some ys => if (ys.map (·.length)).sum + ys.length * s.length ≤ 16777216 then .ok (.str (Txt.join s ys)) else .bad
    | none => .bad
  | _, _ => .bad
def splitD (a b : D) : Res D := match a, b with
  | .str s, .str z => if (z.length == 0) = false ∧ s.length + 2 ≤ lim then .ok (.lst ((Txt.split s z).map D.str)) else .bad
  | _, _ => .bad
theorem rep_strs {G : GC} {F : Hp} : ∀ ys : List Str, RepAll G F (ys.map V.str) (ys.map D.str)
  | [] => .nil
  | y :: ys => .cons (.str y) (rep_strs ys)
section
variable {X : Cx} {W : Wi} {o e : Expr} {fo fe : Env → Res D} {apos cpos : Pos}
theorem re_join (ho : RE X W .S o fo) (he : RE X W .R e fe) (hs : starEach [e] X.env = [(false, eval e X.env)] := by rfl) (hbase : attributeBase o "join" X.env (eval o X.env) = eval o X.env := by rfl) (hline : (apos.endLine == cpos.line) = true := by rfl) :
    RE X W .S (.Call (.Attribute o "join" apos) [e] [] cpos) (fun r => fo r >>= fun a => isTxt a >>= fun a => fe r >>= fun d => joinD a d) :=
  (pe_join ho he hs hbase hline).imp fun σ H Q ⟨H0, F0, fp, F, r, m, o⟩ => ⟨H0, F0, fp, F, r, m, by
    refine o.bind fun F1 H1 a g1 o1 v kv => ?_
    cases a with
    | str s =>
      have kv' : Rep (gOf X) F1 v (.str s) := kv
      cases kv'
      refine ⟨⟨s, rfl⟩, H0, F0, fp, F1, r, m.grow g1, ?_⟩
      refine Out.bind o1 fun F2 H2 d g2 o2 u ku => ?_
      unfold joinD at o2
      split at o2
      · rename_i s' ds h1
        cases h1
        split at o2
        · rename_i ys hy
          split at o2
          · rename_i hz
            obtain ⟨p, vs, rfl, h1, r1⟩ := (show RdD (gOf X) F2 H2 u _ from ku).lst g2.sub
            have ev := strsOf_rep hy r1
            subst ev
            exact ⟨s, p, ys, rfl, rfl, .inl (.of h1), hz, o2 F2 H2 (Grow.refl g2.sub) _ (Rep.str _)⟩
          · exact o2.elim
        · exact o2.elim
      · exact o2.elim
    | _ => exact o1.elim⟩
theorem re_split (ho : RE X W .S o fo) (he : RE X W .S e fe) (hs : starEach [e] X.env = [(false, eval e X.env)] := by rfl) (hbase : attributeBase o "split" X.env (eval o X.env) = eval o X.env := by rfl) (hline : (apos.endLine == cpos.line) = true := by rfl) :
    RE X W (.O .flat) (.Call (.Attribute o "split" apos) [e] [] cpos) (fun r => fo r >>= fun a => isTxt a >>= fun a => fe r >>= fun d => splitD a d) :=
  (pe_split ho he hs hbase hline).imp fun σ H Q ⟨H0, F0, fp, F, r, m, o⟩ => ⟨H0, F0, fp, F, r, m, by
    refine o.bind fun F1 H1 a g1 o1 v kv => ?_
    cases a with
    | str s =>
      have kv' : Rep (gOf X) F1 v (.str s) := kv
      cases kv'
      refine ⟨⟨s, rfl⟩, H0, F0, fp, F1, r, m.grow g1, ?_⟩
      refine Out.bind o1 fun F2 H2 d g2 o2 u ku => ?_
      cases d with
      | str z =>
        have ku' : Rep (gOf X) F2 u (.str z) := ku
        cases ku'
        have e2 : splitD (.str s) (.str z) = if (z.length == 0) = false ∧ s.length + 2 ≤ lim then .ok (.lst ((Txt.split s z).map D.str)) else .bad := rfl
        rw [e2] at o2
        by_cases hz : (z.length == 0) = false ∧ s.length + 2 ≤ lim
        · rw [if_pos hz] at o2
          refine ⟨s, z, rfl, rfl, hz.1, Nat.le_trans hz.2 lim_le, fun p hp => ?_⟩
          exact o2 _ _ (Grow.own g2.sub hp) _ ⟨[p], Own.lst rfl upd_same (g2.sub.free hp) (OwnAll.of_rep (rep_strs _)) (by simp), fun b hb => by rw [List.mem_singleton.mp hb]; exact g1.h.free (g2.h.free hp)⟩
        · rw [if_neg hz] at o2
          exact o2.elim
      | _ => exact o2.elim
    | _ => exact o1.elim⟩
end
def inS1 (x xs : D) : Res D := match x, xs with
  | .str a, .str z => match a.cps.toList with
    | [c] => .ok (.bl (decide (c ∈ z.cps.toList)))
    | _ => .bad
  | _, _ => .bad
def notInS1 (x xs : D) : Res D := match x, xs with
  | .str a, .str z => match a.cps.toList with
    | [c] => .ok (.bl (!decide (c ∈ z.cps.toList)))
    | _ => .bad
  | _, _ => .bad
theorem ne_inS1 : NoEr2 inS1 := fun a b e z => by
  unfold inS1 at z
  split at z
  · split at z <;> cases z
  · cases z
theorem ne_notInS1 : NoEr2 notInS1 := fun a b e z => by
  unfold notInS1 at z
  split at z
  · split at z <;> cases z
  · cases z
theorem one_sign {a : Str} {c : Nat} (h : a.cps.toList = [c]) : a = ⟨#[c]⟩ := by
  obtain ⟨⟨l⟩⟩ := a
  have h : l = [c] := h
  subst h
  rfl
section
variable {X : Cx}
theorem c_inS1 : Cmp X .In inS1 := ⟨⟨_, op_in_sign, fun F H y x b a d Q Ha Hb s kb ka e k => by
  unfold inS1 at e
  split at e
  · rename_i z1 z2
    split at e
    · rename_i c hc
      cases e
      have := one_sign hc
      subst this
      have k1 : RdD (gOf X) F H y (.str _) := kb
      have k2 : RdD (gOf X) F H x (.str _) := ka
      rw [k1.str, k2.str]
      exact ⟨c, z2, rfl, rfl, k _ F H (Grow.refl s) (Rep.bl _)⟩
    · cases e
  · cases e⟩, ne_inS1⟩
theorem c_notInS1 : Cmp X .NotIn notInS1 := ⟨⟨_, op_notIn_sign, fun F H y x b a d Q Ha Hb s kb ka e k => by
  unfold notInS1 at e
  split at e
  · rename_i z1 z2
    split at e
    · rename_i c hc
      cases e
      have := one_sign hc
      subst this
      have k1 : RdD (gOf X) F H y (.str _) := kb
      have k2 : RdD (gOf X) F H x (.str _) := ka
      rw [k1.str, k2.str]
      exact ⟨c, z2, rfl, rfl, k _ F H (Grow.refl s) (Rep.bl _)⟩
    · cases e
  · cases e⟩, ne_notInS1⟩
end
end Mir
namespace Mir
open PySem PySem.Spec PyProof.Rows L2
variable [Tn]
structure NoEqM (K : PySem.W.Frag) (ca : Nat → Addr) (c : Nat) : Prop where
  up : PySem.W.mroIn K (ca c) (.type "object") = some true
  eq : PySem.W.findIn K (.ref (ca c)) "__eq__" = some (some (.builtin "object.__eq__"))
def neB (K : PySem.W.Frag) (a : Addr) : Bool := decide (PySem.W.mroIn K a (.type "object") = some true) && decide (PySem.W.findIn K (.ref a) "__eq__" = some (some (.builtin "object.__eq__")))
theorem noEqM_by {K : PySem.W.Frag} {ca : Nat → Addr} {c : Nat} {a : Addr} (h : ca c = a) (hb : neB K a = true) : NoEqM K ca c := by
  unfold neB at hb
  rw [Bool.and_eq_true] at hb
  subst h
  exact ⟨of_decide_eq_true hb.1, of_decide_eq_true hb.2⟩
def isNonD : D → Bool
  | .non => true
  | _ => false
def noneOrD (c : Nat) : D → Bool
  | .non => true
  | .obj k _ => k == c
  | _ => false
/-- None in a row -/
def inNone (c : Nat) (x xs : D) : Res D := match x, xs with
  | .non, .lst ds => if ds.all (noneOrD c) = true then .ok (.bl (ds.any isNonD)) else inD .non (.lst ds)
  | x, xs => inD x xs
theorem ne_inNone (c : Nat) : NoEr2 (inNone c) := fun a b e z => by
  unfold inNone at z
  split at z
  · split at z
    · cases z
    · exact ne_inD _ _ _ z
  · exact ne_inD _ _ _ z
theorem noneOr_rep {G : GC} {F H : Hp} {c : Nat} (M : NoEqM G.K G.ca c) (s : Same F H) : ∀ {vs : List V} {ds : List D}, RepAll G F vs ds → ds.all (noneOrD c) = true → (∀ z ∈ vs, NoneOr G.K H z) ∧ vs.any isNon = ds.any isNonD
  | _, _, .nil, _ => ⟨fun z hz => (by cases hz), rfl⟩
  | v :: vs, d :: ds, .cons r rs, h => by
    rw [List.all_cons, Bool.and_eq_true] at h
    obtain ⟨i1, i2⟩ := noneOr_rep M s rs h.2
    have one : NoneOr G.K H v ∧ isNon v = isNonD d := by
      cases r with
      | non => exact ⟨.inl rfl, rfl⟩
      | obj e hl hr =>
        rename_i a dx c' ws us
        have hc : (c' == c) = true := h.1
        have hc : c' = c := eq_of_beq hc
        subst hc
        exact ⟨.inr ⟨a, G.ca c', dx, _, rfl, s _ _ e, M.up, M.eq⟩, rfl⟩
      | bl b => exact absurd h.1 (by show ¬ false = true; decide)
      | int i => exact absurd h.1 (by show ¬ false = true; decide)
      | str z => exact absurd h.1 (by show ¬ false = true; decide)
      | tup _ _ => exact absurd h.1 (by show ¬ false = true; decide)
      | lst _ _ => exact absurd h.1 (by show ¬ false = true; decide)
      | scr _ => exact absurd h.1 (by show ¬ false = true; decide)
      | dic _ _ _ _ _ _ _ => exact absurd h.1 (by show ¬ false = true; decide)
      | exc _ _ => exact absurd h.1 (by show ¬ false = true; decide)
      | excF _ _ _ _ => exact absurd h.1 (by show ¬ false = true; decide)
      | cls _ => exact absurd h.1 (by show ¬ false = true; decide)
      | ty _ => exact absurd h.1 (by show ¬ false = true; decide)
    refine ⟨fun z hz => ?_, by rw [List.any_cons, List.any_cons, one.2, i2]⟩
    rcases List.mem_cons.mp hz with rfl | hz
    · exact one.1
    · exact i1 z hz
section
variable {X : Cx} {k : Nat}
theorem c_inNone {c : Nat} (M : NoEqM X.K (gOf X).ca c) (hr : Room k X.A) : Cmp X .In (inNone c) := ⟨⟨_, ((op_inD (units65 hr)).or (op_inDic hr)).or (op_noneIn (by have := units65 hr; omega)), fun F H y x b a d Q Ha Hb s kb ka e kk => by
  unfold inNone at e
  split at e
  · rename_i ds
    split at e
    · rename_i hal
      cases e
      obtain ⟨p, vs, rfl, hq, rr⟩ := (show RdD (gOf X) F H x _ from ka).lst s
      have kb' : RdD (gOf X) F H y .non := kb
      obtain ⟨f1, f2⟩ := noneOr_rep (G := gOf X) M s rr hal
      refine .inr ⟨p, vs, kb'.non, rfl, .of hq, f1, ?_⟩
      show Q (.bl (vs.any isNon)) H
      rw [f2]
      exact kk _ F H (Grow.refl s) (Rep.bl _)
    · exact .inl (inD_ok F H y x _ _ d Q Ha Hb s kb ka e kk)
  · exact .inl (inD_ok F H y x _ _ d Q Ha Hb s kb ka e kk)⟩, ne_inNone c⟩
end
end Mir
set_option maxHeartbeats 0
namespace Mir.K13
open PySem PySem.Spec PyProof.Rows L2
def top (i : Nat) : Stmt := PySem.Challenge.pw_carrytower_k13_table_texts_refused.main.body.getD i (.Pass ⟨0, 0, 0, 0⟩)
section
variable [Tn]
abbrev isC : List Nat := [10, 11, 12, 13, 14, 22, 23, 0, 2]
abbrev isU : List Nat := [0, 10]
abbrev ctC : List Nat := [10, 11, 12, 13, 14, 22, 23]
abbrev ctU : List Nat := [11, 13, 14, 22]
abbrev s_q_rounds : Stmt := top 34
abbrev N_q_rounds : List Str := ["_law_cell_here", "_law_most", "_law_greatest", "_law_found", "_law_left", "_law_k"]
theorem sc_q_rounds : FnScope N_q_rounds ["_law_cell_here", "_law_most", "_law_greatest"] (defScope s_q_rounds) := ⟨rfl, rfl, rfl, by decide +kernel, rfl, by decide +kernel, by decide +kernel⟩
abbrev s_q_cell : Stmt := top 32
abbrev N_q_cell : List Str := ["_law_script", "_law_k", "_law_cell_here", "_law_first"]
theorem sc_q_cell : FnScope N_q_cell ["_law_script", "_law_k"] (defScope s_q_cell) := ⟨rfl, rfl, rfl, by decide +kernel, rfl, by decide +kernel, by decide +kernel⟩
abbrev s_q_rounds_text : Stmt := top 39
abbrev N_q_rounds_text : List Str := ["_law_rounds_here", "_law_number"]
theorem sc_q_rounds_text : FnScope N_q_rounds_text ["_law_rounds_here"] (defScope s_q_rounds_text) := ⟨rfl, rfl, rfl, by decide +kernel, rfl, by decide +kernel, by decide +kernel⟩
abbrev s_q_members : Stmt := top 35
abbrev N_q_members : List Str := ["_law_rounds_here", "_law_found", "_law_number", "_law_longer", "_law_x", "_law_here"]
theorem sc_q_members : FnScope N_q_members ["_law_rounds_here"] (defScope s_q_members) := ⟨rfl, rfl, rfl, by decide +kernel, rfl, by decide +kernel, by decide +kernel⟩
abbrev s_q_element : Stmt := top 36
abbrev N_q_element : List Str := ["_law_rounds_here", "_law_cell_here", "_law_found", "_law_number"]
theorem sc_q_element : FnScope N_q_element ["_law_rounds_here", "_law_cell_here"] (defScope s_q_element) := ⟨rfl, rfl, rfl, by decide +kernel, rfl, by decide +kernel, by decide +kernel⟩
abbrev s_q_carries : Stmt := top 37
abbrev N_q_carries : List Str := ["_law_lower", "_law_upper", "_law_script", "_law_at", "_law_many", "_law_number", "_law_table", "_law_k", "_law_x", "_law_cell_here", "_law_y"]
theorem sc_q_carries : FnScope N_q_carries ["_law_lower", "_law_upper", "_law_script", "_law_at"] (defScope s_q_carries) := ⟨rfl, rfl, rfl, by decide +kernel, rfl, by decide +kernel, by decide +kernel⟩
abbrev s_q_text : Stmt := top 38
abbrev N_q_text : List Str := ["_law_x", "_law_number"]
theorem sc_q_text : FnScope N_q_text ["_law_x"] (defScope s_q_text) := ⟨rfl, rfl, rfl, by decide +kernel, rfl, by decide +kernel, by decide +kernel⟩
abbrev s_q_texts : Stmt := top 43
abbrev N_q_texts : List Str := ["_law_script", "_law_lower", "_law_upper", "_law_rows", "_law_some", "_law_carries_here", "_law_x", "_law_y"]
theorem sc_q_texts : FnScope N_q_texts ["_law_script"] (defScope s_q_texts) := ⟨rfl, rfl, rfl, by decide +kernel, rfl, by decide +kernel, by decide +kernel⟩
abbrev s_q_changed : Stmt := top 44
abbrev N_q_changed : List Str := ["_law_rows", "_law_cell_here", "_law_way", "_law_at", "_law_text_here", "_law_spot", "_law_sign", "_law_new"]
theorem sc_q_changed : FnScope N_q_changed ["_law_rows", "_law_cell_here"] (defScope s_q_changed) := ⟨rfl, rfl, rfl, by decide +kernel, rfl, by decide +kernel, by decide +kernel⟩
abbrev s_Table_carries : Stmt := inClass (top 20) 2
abbrev N_Table_carries : List Str := ["self"]
theorem sc_Table_carries : FnScope N_Table_carries ["self"] (defScope s_Table_carries) := ⟨rfl, rfl, rfl, by decide +kernel, rfl, by decide +kernel, by decide +kernel⟩
abbrev s_NoText_init : Stmt := inClass (top 7) 0
abbrev s_is_whole : Stmt := top 12
abbrev N_is_whole : List Str := ["thing"]
theorem sc_is_whole : FnScope N_is_whole ["thing"] (defScope s_is_whole) := ⟨rfl, rfl, rfl, by decide +kernel, rfl, by decide +kernel, by decide +kernel⟩
abbrev s_are_rounds : Stmt := top 13
abbrev N_are_rounds : List Str := ["thing", "many", "number"]
theorem sc_are_rounds : FnScope N_are_rounds ["thing"] (defScope s_are_rounds) := ⟨rfl, rfl, rfl, by decide +kernel, rfl, by decide +kernel, by decide +kernel⟩
abbrev s_Rounds_init : Stmt := inClass (top 15) 0
abbrev N_Rounds_init : List Str := ["self", "rounds"]
theorem sc_Rounds_init : FnScope N_Rounds_init ["self", "rounds"] (defScope s_Rounds_init) := ⟨rfl, rfl, rfl, by decide +kernel, rfl, by decide +kernel, by decide +kernel⟩
abbrev s_number_read : Stmt := top 24
abbrev N_number_read : List Str := ["word", "sign"]
theorem sc_number_read : FnScope N_number_read ["word"] (defScope s_number_read) := ⟨rfl, rfl, rfl, by decide +kernel, rfl, by decide +kernel, by decide +kernel⟩
abbrev s_rounds_or_none : Stmt := top 25
abbrev N_rounds_or_none : List Str := ["text", "found", "word"]
theorem sc_rounds_or_none : FnScope N_rounds_or_none ["text"] (defScope s_rounds_or_none) := ⟨rfl, rfl, rfl, by decide +kernel, rfl, by decide +kernel, by decide +kernel⟩
abbrev s_groups_read : Stmt := top 28
abbrev N_groups_read : List Str := ["rows", "found", "word"]
theorem sc_groups_read : FnScope N_groups_read ["rows"] (defScope s_groups_read) := ⟨rfl, rfl, rfl, by decide +kernel, rfl, by decide +kernel, by decide +kernel⟩
abbrev s_Rounds_members : Stmt := inClass (top 15) 1
abbrev N_Rounds_members : List Str := ["self", "found", "number", "longer", "x", "here"]
theorem sc_Rounds_members : FnScope N_Rounds_members ["self"] (defScope s_Rounds_members) := ⟨rfl, rfl, rfl, by decide +kernel, rfl, by decide +kernel, by decide +kernel⟩
abbrev s_Group_size : Stmt := inClass (top 14) 0
abbrev N_Group_size : List Str := ["self"]
theorem sc_Group_size : FnScope N_Group_size ["self"] (defScope s_Group_size) := ⟨rfl, rfl, rfl, by decide +kernel, rfl, by decide +kernel, by decide +kernel⟩
abbrev s_Rounds_is_even : Stmt := inClass (top 15) 7
abbrev N_Rounds_is_even : List Str := ["self"]
theorem sc_Rounds_is_even : FnScope N_Rounds_is_even ["self"] (defScope s_Rounds_is_even) := ⟨rfl, rfl, rfl, by decide +kernel, rfl, by decide +kernel, by decide +kernel⟩
abbrev s_look_at_groups : Stmt := top 19
abbrev N_look_at_groups : List Str := ["lower", "upper"]
theorem sc_look_at_groups : FnScope N_look_at_groups ["lower", "upper"] (defScope s_look_at_groups) := ⟨rfl, rfl, rfl, by decide +kernel, rfl, by decide +kernel, by decide +kernel⟩
abbrev s_Rounds_has : Stmt := inClass (top 15) 2
abbrev N_Rounds_has : List Str := ["self", "thing", "number", "most"]
theorem sc_Rounds_has : FnScope N_Rounds_has ["self", "thing"] (defScope s_Rounds_has) := ⟨rfl, rfl, rfl, by decide +kernel, rfl, by decide +kernel, by decide +kernel⟩
abbrev s_element_or_none : Stmt := top 26
abbrev N_element_or_none : List Str := ["group", "text", "found", "word"]
theorem sc_element_or_none : FnScope N_element_or_none ["group", "text"] (defScope s_element_or_none) := ⟨rfl, rfl, rfl, by decide +kernel, rfl, by decide +kernel, by decide +kernel⟩
abbrev s_row_read : Stmt := top 29
abbrev N_row_read : List Str := ["lower", "rows", "at", "many", "found", "word"]
theorem sc_row_read : FnScope N_row_read ["lower", "rows", "at", "many"] (defScope s_row_read) := ⟨rfl, rfl, rfl, by decide +kernel, rfl, by decide +kernel, by decide +kernel⟩
abbrev s_NoCarry_init : Stmt := inClass (top 8) 0
abbrev s_Table_init : Stmt := inClass (top 20) 0
abbrev N_Table_init : List Str := ["self", "lower", "upper", "carries", "some", "x", "y"]
theorem sc_Table_init : FnScope N_Table_init ["self", "lower", "upper", "carries"] (defScope s_Table_init) := ⟨rfl, rfl, rfl, by decide +kernel, rfl, by decide +kernel, by decide +kernel⟩
abbrev s_read_table : Stmt := top 30
abbrev N_read_table : List Str := ["rows", "lower", "upper", "some", "carries", "k", "x", "y", "carry"]
theorem sc_read_table : FnScope N_read_table ["rows"] (defScope s_read_table) := ⟨rfl, rfl, rfl, by decide +kernel, rfl, by decide +kernel, by decide +kernel⟩
abbrev s_q_told : Stmt := top 47
abbrev N_q_told : List Str := ["_law_rows", "_law_told_here", "e"]
theorem sc_q_told : FnScope N_q_told ["_law_rows"] (defScope s_q_told) := ⟨rfl, rfl, rfl, by decide +kernel, rfl, by decide +kernel, by decide +kernel⟩
abbrev s_q_number_read : Stmt := top 40
abbrev N_q_number_read : List Str := ["_law_word", "_law_sign"]
theorem sc_q_number_read : FnScope N_q_number_read ["_law_word"] (defScope s_q_number_read) := ⟨rfl, rfl, rfl, by decide +kernel, rfl, by decide +kernel, by decide +kernel⟩
abbrev s_q_rounds_read : Stmt := top 41
abbrev N_q_rounds_read : List Str := ["_law_text_here", "_law_found", "_law_many", "_law_number", "_law_word"]
theorem sc_q_rounds_read : FnScope N_q_rounds_read ["_law_text_here"] (defScope s_q_rounds_read) := ⟨rfl, rfl, rfl, by decide +kernel, rfl, by decide +kernel, by decide +kernel⟩
abbrev s_q_size : Stmt := top 45
abbrev N_q_size : List Str := ["_law_rounds_here", "_law_many", "_law_number"]
theorem sc_q_size : FnScope N_q_size ["_law_rounds_here"] (defScope s_q_size) := ⟨rfl, rfl, rfl, by decide +kernel, rfl, by decide +kernel, by decide +kernel⟩
abbrev s_q_element_read : Stmt := top 42
abbrev N_q_element_read : List Str := ["_law_rounds_here", "_law_text_here", "_law_found", "_law_number", "_law_most", "_law_word"]
theorem sc_q_element_read : FnScope N_q_element_read ["_law_rounds_here", "_law_text_here"] (defScope s_q_element_read) := ⟨rfl, rfl, rfl, by decide +kernel, rfl, by decide +kernel, by decide +kernel⟩
abbrev s_q_due : Stmt := top 46
abbrev N_q_due : List Str := ["_law_rows", "_law_groups", "_law_lower", "_law_upper", "_law_some", "_law_carries_here", "_law_k", "_law_x", "_law_found", "_law_y", "_law_carry", "_law_word"]
theorem sc_q_due : FnScope N_q_due ["_law_rows"] (defScope s_q_due) := ⟨rfl, rfl, rfl, by decide +kernel, rfl, by decide +kernel, by decide +kernel⟩
abbrev s_law : Stmt := top 48
abbrev N_law : List Str := ["_law_script", "_law_rows", "_law_way", "_law_k", "_law_handed"]
theorem sc_law : FnScope N_law ["_law_script"] (defScope s_law) := ⟨rfl, rfl, rfl, by decide +kernel, rfl, by decide +kernel, by decide +kernel⟩
def q_rounds_l1 : D → Env → Oc := fun d r => (into ((nameG 5) d r)).seq fun r => ((lift ((((getS 4 r) >>= fun x => (.ok (.int 1)) >>= fun y => gtD x y) >>= asB) >>= fun t => if t = true then ((((getS 0 r) >>= fun x => (.ok (.int 5)) >>= fun y => modD x y) >>= fun x => (.ok (.int 0)) >>= fun y => gtD x y) >>= asB) else .ok false) r fun t => if t = true then ((appG 3 (fun r => (.ok (.int 2)) >>= fun x => (((getS 0 r) >>= fun x => (.ok (.int 5)) >>= fun y => divD x y) >>= fun x => ((((getS 4 r) >>= fun d => ((getS 2 r) >>= fun d => (.ok []) >>= fun ds => .ok (d :: ds)) >>= fun ds => .ok (d :: ds)) >>= two minD) >>= fun x => (.ok (.int 1)) >>= fun y => subD x y) >>= fun y => modD x y) >>= fun y => addD x y) r).seq fun r => (lift ((getS 4 r) >>= fun x => ((getR 3 r) >>= fun x => ((.ok (.int 1)) >>= negD) >>= fun y => ixD x y) >>= fun y => divD x y) r fun d => .nx (r.set 4 (.sh d)))) else (.nx r)).seq fun r => (lift ((getS 0 r) >>= fun x => (.ok (.int 101)) >>= fun y => divD x y) r fun d => .nx (r.set 0 (.sh d))))
def e_q_rounds : Env → Oc := fun r => (lift ((.ok []) >>= lstD) r fun d => .nx (r.set 3 (.ow .flat d))).seq fun r => ((lift (getS 1 r) r fun d => .nx (r.set 4 (.sh d))).seq fun r => ((lift (((.ok (.int 3)) >>= fun d => (.ok []) >>= fun ds => .ok (d :: ds)) >>= rng1) r fun ds => forD (q_rounds_l1) ds r).seq fun r => (lift (((getR 3 r) >>= fun d => (.ok []) >>= fun ds => .ok (d :: ds)) >>= one tupleD) r fun d => .rt d)))
def d_q_rounds : List D → Res D := runD 3 N_q_rounds.length e_q_rounds
def e_q_cell : Env → Oc := fun r => (lift (.ok (.int 0)) r fun d => .nx (r.set 2 (.sh d))).seq fun r => ((lift (((((getS 0 r) >>= fun d => (.ok []) >>= fun ds => .ok (d :: ds)) >>= one lenD) >>= fun x => (.ok (.int 0)) >>= fun y => gtD x y) >>= asB) r fun t => if t = true then (lift ((getS 0 r) >>= fun x => ((getS 1 r) >>= fun x => (((getS 0 r) >>= fun d => (.ok []) >>= fun ds => .ok (d :: ds)) >>= one lenD) >>= fun y => modD x y) >>= fun y => ixD x y) r fun d => .nx (r.set 2 (.sh d))) else (.nx r)).seq fun r => ((lift ((((((getS 0 r) >>= fun d => (.ok []) >>= fun ds => .ok (d :: ds)) >>= one sumD) >>= fun x => (.ok (.int 2)) >>= fun y => modD x y) >>= fun x => (.ok (.int 1)) >>= fun y => eqD x y) >>= asB) r fun t => if t = true then (lift (getS 2 r) r fun d => .rt d) else (.nx r)).seq fun r => ((lift ((((((getS 2 r) >>= fun x => (.ok (.int 1000000007)) >>= fun y => modD x y) >>= fun x => ((.ok (.int 7919)) >>= fun x => (getS 1 r) >>= fun y => mulD x y) >>= fun y => addD x y) >>= fun x => (.ok (.int 11)) >>= fun y => addD x y) >>= fun x => (.ok (.int 48271)) >>= fun y => mulD x y) >>= fun x => (.ok (.int 2147483647)) >>= fun y => modD x y) r fun d => .nx (r.set 3 (.sh d))).seq fun r => (lift ((((((getS 3 r) >>= fun x => (.ok (.int 69621)) >>= fun y => mulD x y) >>= fun x => ((.ok (.int 17)) >>= fun x => (getS 1 r) >>= fun y => mulD x y) >>= fun y => addD x y) >>= fun x => (.ok (.int 2147483629)) >>= fun y => modD x y) >>= fun x => (.ok (.int 2147483647)) >>= fun y => mulD x y) >>= fun x => (((getS 3 r) >>= fun x => (.ok (.int 16807)) >>= fun y => mulD x y) >>= fun x => (.ok (.int 2147483647)) >>= fun y => modD x y) >>= fun y => addD x y) r fun d => .rt d))))
def d_q_cell : List D → Res D := runD 2 N_q_cell.length e_q_cell
def q_rounds_text_c1 (r : Env) (ds : List D) : Res (List D) := lcD (nameG 1)
  (fun r => .ok true)
  (fun r => ((getS 1 r) >>= fun d => (.ok []) >>= fun ds => .ok (d :: ds)) >>= one strD)
  (wipeR r [1]) ds
def e_q_rounds_text : Env → Oc := fun r => (lift (((((getS 0 r) >>= fun d => (.ok []) >>= fun ds => .ok (d :: ds)) >>= one lenD) >>= fun x => (.ok (.int 0)) >>= fun y => eqD x y) >>= asB) r fun t => if t = true then (lift (.ok (.str "1")) r fun d => .rt d) else (.nx r)).seq fun r => (lift ((.ok (.str "x")) >>= fun a => isTxt a >>= fun a => (((getS 0 r) >>= itemsD) >>= fun ds => q_rounds_text_c1 r ds >>= lstD) >>= fun d => joinD a d) r fun d => .rt d)
def d_q_rounds_text : List D → Res D := runD 1 N_q_rounds_text.length e_q_rounds_text
def q_members_l1 : D → Env → Oc := fun d r => (into ((nameG 5) d r)).seq fun r => (appG 3 (fun r => (getS 4 r) >>= fun x => (((getS 5 r) >>= fun d => (.ok []) >>= fun ds => .ok (d :: ds)) >>= tupD) >>= fun y => addD x y) r)
def q_members_l2 : D → Env → Oc := fun d r => (into ((nameG 4) d r)).seq fun r => (lift (((getS 2 r) >>= fun d => (.ok []) >>= fun ds => .ok (d :: ds)) >>= rng1) r fun ds => forD (q_members_l1) ds r)
def q_members_l3 : D → Env → Oc := fun d r => (into ((nameG 2) d r)).seq fun r => ((lift ((.ok []) >>= lstD) r fun d => .nx (r.set 3 (.ow .flat d))).seq fun r => ((lift ((getS 1 r) >>= itemsD) r fun ds => forD (q_members_l2) ds r).seq fun r => (frzAt 3 (fun r => lift (getS 3 r) r fun d => .nx (r.set 1 (.sh d))) r)))
def e_q_members : Env → Oc := fun r => (lift ((((.ok []) >>= tupD) >>= fun d => (.ok []) >>= fun ds => .ok (d :: ds)) >>= lstD) r fun d => .nx (r.set 1 (.sh d))).seq fun r => ((lift ((getS 0 r) >>= itemsD) r fun ds => forD (q_members_l3) ds r).seq fun r => (lift (getS 1 r) r fun d => .rt d))
def d_q_members : List D → Res D := runD 1 N_q_members.length e_q_members
def q_element_l1 : D → Env → Oc := fun d r => (into ((nameG 3) d r)).seq fun r => ((appG 2 (fun r => (getS 1 r) >>= fun x => (getS 3 r) >>= fun y => modD x y) r).seq fun r => (lift ((getS 1 r) >>= fun x => (getS 3 r) >>= fun y => divD x y) r fun d => .nx (r.set 1 (.sh d))))
def e_q_element : Env → Oc := fun r => (lift ((.ok []) >>= lstD) r fun d => .nx (r.set 2 (.ow .flat d))).seq fun r => ((lift ((getS 0 r) >>= itemsD) r fun ds => forD (q_element_l1) ds r).seq fun r => (lift (((getR 2 r) >>= fun d => (.ok []) >>= fun ds => .ok (d :: ds)) >>= one tupleD) r fun d => .rt d))
def d_q_element : List D → Res D := runD 2 N_q_element.length e_q_element
def q_carries_l1 : D → Env → Oc := fun d r => (into ((nameG 5) d r)).seq fun r => (lift ((getS 4 r) >>= fun x => (getS 5 r) >>= fun y => mulD x y) r fun d => .nx (r.set 4 (.sh d)))
def q_carries_l2 : D → Env → Oc := fun d r => (into ((nameG 10) d r)).seq fun r => ((setG 6 (fun r => ((getS 0 r) >>= fun d => ((getS 9 r) >>= fun d => (.ok []) >>= fun ds => .ok (d :: ds)) >>= fun ds => .ok (d :: ds)) >>= d_q_element) (fun r => ((getS 8 r) >>= fun d => ((getS 10 r) >>= fun d => (.ok []) >>= fun ds => .ok (d :: ds)) >>= fun ds => .ok (d :: ds)) >>= tupD) r).seq fun r => (lift ((getS 9 r) >>= fun x => (getS 4 r) >>= fun y => divD x y) r fun d => .nx (r.set 9 (.sh d))))
def q_carries_l3 : D → Env → Oc := fun d r => (into ((tupG 2 (consG (nameG 7) (consG (nameG 8) (nilG)))) d r)).seq fun r => ((lift (((getS 2 r) >>= fun d => (((getS 3 r) >>= fun x => (getS 7 r) >>= fun y => addD x y) >>= fun d => (.ok []) >>= fun ds => .ok (d :: ds)) >>= fun ds => .ok (d :: ds)) >>= d_q_cell) r fun d => .nx (r.set 9 (.sh d))).seq fun r => (lift ((((getS 1 r) >>= fun d => (.ok []) >>= fun ds => .ok (d :: ds)) >>= d_q_members) >>= itemsD) r fun ds => forD (q_carries_l2) ds r))
def e_q_carries : Env → Oc := fun r => (lift (.ok (.int 1)) r fun d => .nx (r.set 4 (.sh d))).seq fun r => ((lift ((getS 0 r) >>= itemsD) r fun ds => forD (q_carries_l1) ds r).seq fun r => ((lift (.ok (.dic [] [])) r fun d => .nx (r.set 6 (.ow .flat d))).seq fun r => ((lift (((((getS 1 r) >>= fun d => (.ok []) >>= fun ds => .ok (d :: ds)) >>= d_q_members) >>= fun d => (.ok []) >>= fun ds => .ok (d :: ds)) >>= enumS) r fun ds => forD (q_carries_l3) ds r).seq fun r => (frzAt 6 (fun r => lift (getS 6 r) r fun d => .rt d) r))))
def d_q_carries : List D → Res D := runD 4 N_q_carries.length e_q_carries
def q_text_c1 (r : Env) (ds : List D) : Res (List D) := lcD (nameG 1)
  (fun r => .ok true)
  (fun r => ((getS 1 r) >>= fun d => (.ok []) >>= fun ds => .ok (d :: ds)) >>= one strD)
  (wipeR r [1]) ds
def e_q_text : Env → Oc := fun r => (lift (((((getS 0 r) >>= fun d => (.ok []) >>= fun ds => .ok (d :: ds)) >>= one lenD) >>= fun x => (.ok (.int 0)) >>= fun y => eqD x y) >>= asB) r fun t => if t = true then (lift (.ok (.str "-")) r fun d => .rt d) else (.nx r)).seq fun r => (lift ((.ok (.str ",")) >>= fun a => isTxt a >>= fun a => (((getS 0 r) >>= itemsD) >>= fun ds => q_text_c1 r ds >>= lstD) >>= fun d => joinD a d) r fun d => .rt d)
def d_q_text : List D → Res D := runD 1 N_q_text.length e_q_text
def q_texts_c1 (r : Env) (ds : List D) : Res (List D) := lcD (nameG 7)
  (fun r => .ok true)
  (fun r => (((getS 5 r) >>= fun x => (((getS 6 r) >>= fun d => ((getS 7 r) >>= fun d => (.ok []) >>= fun ds => .ok (d :: ds)) >>= fun ds => .ok (d :: ds)) >>= tupD) >>= fun y => ixD x y) >>= fun d => (.ok []) >>= fun ds => .ok (d :: ds)) >>= d_q_text)
  (wipeR r [7]) ds
def q_texts_l2 : D → Env → Oc := fun d r => (into ((nameG 6) d r)).seq fun r => (appG 3 (fun r => (.ok (.str " ")) >>= fun a => isTxt a >>= fun a => (((getS 4 r) >>= itemsD) >>= fun ds => q_texts_c1 r ds >>= lstD) >>= fun d => joinD a d) r)
def e_q_texts : Env → Oc := fun r => (lift (((((getS 0 r) >>= fun d => ((.ok (.int 0)) >>= fun d => (.ok []) >>= fun ds => .ok (d :: ds)) >>= fun ds => .ok (d :: ds)) >>= d_q_cell) >>= fun d => (((((.ok (.int 16)) >>= fun d => ((.ok (.int 16)) >>= fun d => ((.ok (.int 16)) >>= fun d => ((.ok (.int 60)) >>= fun d => (.ok []) >>= fun ds => .ok (d :: ds)) >>= fun ds => .ok (d :: ds)) >>= fun ds => .ok (d :: ds)) >>= fun ds => .ok (d :: ds)) >>= lstD) >>= fun x => ((((getS 0 r) >>= fun d => ((.ok (.int 2)) >>= fun d => (.ok []) >>= fun ds => .ok (d :: ds)) >>= fun ds => .ok (d :: ds)) >>= d_q_cell) >>= fun x => (.ok (.int 4)) >>= fun y => modD x y) >>= fun y => ixD x y) >>= fun d => ((.ok (.int 16)) >>= fun d => (.ok []) >>= fun ds => .ok (d :: ds)) >>= fun ds => .ok (d :: ds)) >>= fun ds => .ok (d :: ds)) >>= d_q_rounds) r fun d => .nx (r.set 1 (.sh d))).seq fun r => ((lift (((((getS 0 r) >>= fun d => ((.ok (.int 1)) >>= fun d => (.ok []) >>= fun ds => .ok (d :: ds)) >>= fun ds => .ok (d :: ds)) >>= d_q_cell) >>= fun d => (((((.ok (.int 5)) >>= fun d => ((.ok (.int 5)) >>= fun d => ((.ok (.int 5)) >>= fun d => ((.ok (.int 12)) >>= fun d => (.ok []) >>= fun ds => .ok (d :: ds)) >>= fun ds => .ok (d :: ds)) >>= fun ds => .ok (d :: ds)) >>= fun ds => .ok (d :: ds)) >>= lstD) >>= fun x => (((((getS 0 r) >>= fun d => ((.ok (.int 2)) >>= fun d => (.ok []) >>= fun ds => .ok (d :: ds)) >>= fun ds => .ok (d :: ds)) >>= d_q_cell) >>= fun x => (.ok (.int 4)) >>= fun y => divD x y) >>= fun x => (.ok (.int 4)) >>= fun y => modD x y) >>= fun y => ixD x y) >>= fun d => ((.ok (.int 12)) >>= fun d => (.ok []) >>= fun ds => .ok (d :: ds)) >>= fun ds => .ok (d :: ds)) >>= fun ds => .ok (d :: ds)) >>= d_q_rounds) r fun d => .nx (r.set 2 (.sh d))).seq fun r => ((lift (((((((getS 1 r) >>= fun d => (.ok []) >>= fun ds => .ok (d :: ds)) >>= d_q_rounds_text) >>= fun x => (.ok (.str " ")) >>= fun y => addD x y) >>= fun x => (((getS 2 r) >>= fun d => (.ok []) >>= fun ds => .ok (d :: ds)) >>= d_q_rounds_text) >>= fun y => addD x y) >>= fun d => (.ok []) >>= fun ds => .ok (d :: ds)) >>= lstD) r fun d => .nx (r.set 3 (.ow .flat d))).seq fun r => ((lift (((getS 2 r) >>= fun d => (.ok []) >>= fun ds => .ok (d :: ds)) >>= d_q_members) r fun d => .nx (r.set 4 (.sh d))).seq fun r => ((lift (((getS 1 r) >>= fun d => ((getS 2 r) >>= fun d => ((getS 0 r) >>= fun d => ((.ok (.int 9)) >>= fun d => (.ok []) >>= fun ds => .ok (d :: ds)) >>= fun ds => .ok (d :: ds)) >>= fun ds => .ok (d :: ds)) >>= fun ds => .ok (d :: ds)) >>= d_q_carries) r fun d => .nx (r.set 5 (.sh d))).seq fun r => ((lift ((getS 4 r) >>= itemsD) r fun ds => forD (q_texts_l2) ds r).seq fun r => (frzAt 3 (fun r => lift (getS 3 r) r fun d => .rt d) r))))))
def d_q_texts : List D → Res D := runD 1 N_q_texts.length e_q_texts
def e_q_changed : Env → Oc := fun r => (lift (((((getS 0 r) >>= fun d => (.ok []) >>= fun ds => .ok (d :: ds)) >>= one lenD) >>= fun x => (.ok (.int 0)) >>= fun y => eqD x y) >>= asB) r fun t => if t = true then (lift (getS 0 r) r fun d => .rt d) else (.nx r)).seq fun r => ((lift ((getS 1 r) >>= fun x => (.ok (.int 9)) >>= fun y => modD x y) r fun d => .nx (r.set 2 (.sh d))).seq fun r => ((lift (((getS 1 r) >>= fun x => (.ok (.int 9)) >>= fun y => divD x y) >>= fun x => (((getS 0 r) >>= fun d => (.ok []) >>= fun ds => .ok (d :: ds)) >>= one lenD) >>= fun y => modD x y) r fun d => .nx (r.set 3 (.sh d))).seq fun r => ((lift ((getS 1 r) >>= fun x => (.ok (.int 180)) >>= fun y => divD x y) r fun d => .nx (r.set 1 (.sh d))).seq fun r => ((lift ((getS 0 r) >>= fun x => (getS 3 r) >>= fun y => ixD x y) r fun d => .nx (r.set 4 (.sh d))).seq fun r => ((lift (((getS 1 r) >>= fun x => (.ok (.int 20)) >>= fun y => divD x y) >>= fun x => ((((getS 4 r) >>= fun d => (.ok []) >>= fun ds => .ok (d :: ds)) >>= one lenD) >>= fun x => (.ok (.int 1)) >>= fun y => addD x y) >>= fun y => modD x y) r fun d => .nx (r.set 5 (.sh d))).seq fun r => ((lift ((.ok (.str "0123456789x,- x-, 1x")) >>= fun x => ((getS 1 r) >>= fun x => (.ok (.int 20)) >>= fun y => modD x y) >>= fun y => ixD x y) r fun d => .nx (r.set 6 (.sh d))).seq fun r => ((lift (((getS 2 r) >>= fun x => (.ok (.int 0)) >>= fun y => eqD x y) >>= asB) r fun t => if t = true then (lift (((getS 0 r) >>= fun d => (.ok none) >>= fun lo => ((getS 3 r) >>= fun d => asI d >>= fun i => .ok (some i)) >>= fun hi => sliceD d lo hi) >>= fun x => ((getS 0 r) >>= fun d => (((getS 3 r) >>= fun x => (.ok (.int 1)) >>= fun y => addD x y) >>= fun d => asI d >>= fun i => .ok (some i)) >>= fun lo => (.ok none) >>= fun hi => sliceD d lo hi) >>= fun y => addD x y) r fun d => .rt d) else (.nx r)).seq fun r => ((lift (((getS 2 r) >>= fun x => (.ok (.int 1)) >>= fun y => eqD x y) >>= asB) r fun t => if t = true then (lift ((((getS 0 r) >>= fun d => (.ok none) >>= fun lo => ((getS 3 r) >>= fun d => asI d >>= fun i => .ok (some i)) >>= fun hi => sliceD d lo hi) >>= fun x => (((getS 4 r) >>= fun d => (.ok []) >>= fun ds => .ok (d :: ds)) >>= lstD) >>= fun y => addD x y) >>= fun x => ((getS 0 r) >>= fun d => ((getS 3 r) >>= fun d => asI d >>= fun i => .ok (some i)) >>= fun lo => (.ok none) >>= fun hi => sliceD d lo hi) >>= fun y => addD x y) r fun d => .rt d) else (.nx r)).seq fun r => ((lift (((getS 2 r) >>= fun x => (.ok (.int 2)) >>= fun y => eqD x y) >>= asB) r fun t => if t = true then (lift ((getS 0 r) >>= fun x => ((((((getS 4 r) >>= fun d => ((.ok (.str "")) >>= fun d => (.ok []) >>= fun ds => .ok (d :: ds)) >>= fun ds => .ok (d :: ds)) >>= lstD) >>= fun x => ((getS 1 r) >>= fun x => (.ok (.int 2)) >>= fun y => modD x y) >>= fun y => ixD x y) >>= fun d => (.ok []) >>= fun ds => .ok (d :: ds)) >>= lstD) >>= fun y => addD x y) r fun d => .rt d) else (.nx r)).seq fun r => ((lift (((getS 2 r) >>= fun x => (.ok (.int 3)) >>= fun y => eqD x y) >>= asB) r fun t => if t = true then (lift ((((getS 0 r) >>= fun d => (.ok none) >>= fun lo => ((getS 3 r) >>= fun d => asI d >>= fun i => .ok (some i)) >>= fun hi => sliceD d lo hi) >>= fun x => (((getS 0 r) >>= fun d => ((getS 3 r) >>= fun d => asI d >>= fun i => .ok (some i)) >>= fun lo => (((getS 3 r) >>= fun x => (.ok (.int 2)) >>= fun y => addD x y) >>= fun d => asI d >>= fun i => .ok (some i)) >>= fun hi => sliceD d lo hi) >>= revD) >>= fun y => addD x y) >>= fun x => ((getS 0 r) >>= fun d => (((getS 3 r) >>= fun x => (.ok (.int 2)) >>= fun y => addD x y) >>= fun d => asI d >>= fun i => .ok (some i)) >>= fun lo => (.ok none) >>= fun hi => sliceD d lo hi) >>= fun y => addD x y) r fun d => .rt d) else (.nx r)).seq fun r => ((lift ((((getS 4 r) >>= fun d => (.ok none) >>= fun lo => ((getS 5 r) >>= fun d => asI d >>= fun i => .ok (some i)) >>= fun hi => sliceD d lo hi) >>= fun x => (getS 6 r) >>= fun y => addD x y) >>= fun x => ((getS 4 r) >>= fun d => ((getS 5 r) >>= fun d => asI d >>= fun i => .ok (some i)) >>= fun lo => (.ok none) >>= fun hi => sliceD d lo hi) >>= fun y => addD x y) r fun d => .nx (r.set 7 (.sh d))).seq fun r => ((lift (((getS 2 r) >>= fun x => (.ok (.int 4)) >>= fun y => eqD x y) >>= asB) r fun t => if t = true then (lift (((getS 4 r) >>= fun d => (.ok none) >>= fun lo => ((getS 5 r) >>= fun d => asI d >>= fun i => .ok (some i)) >>= fun hi => sliceD d lo hi) >>= fun x => ((getS 4 r) >>= fun d => (((getS 5 r) >>= fun x => (.ok (.int 1)) >>= fun y => addD x y) >>= fun d => asI d >>= fun i => .ok (some i)) >>= fun lo => (.ok none) >>= fun hi => sliceD d lo hi) >>= fun y => addD x y) r fun d => .nx (r.set 7 (.sh d))) else (.nx r)).seq fun r => ((lift (((getS 2 r) >>= fun x => (.ok (.int 5)) >>= fun y => eqD x y) >>= asB) r fun t => if t = true then (lift ((((getS 4 r) >>= fun d => (.ok none) >>= fun lo => ((getS 5 r) >>= fun d => asI d >>= fun i => .ok (some i)) >>= fun hi => sliceD d lo hi) >>= fun x => (getS 6 r) >>= fun y => addD x y) >>= fun x => ((getS 4 r) >>= fun d => (((getS 5 r) >>= fun x => (.ok (.int 1)) >>= fun y => addD x y) >>= fun d => asI d >>= fun i => .ok (some i)) >>= fun lo => (.ok none) >>= fun hi => sliceD d lo hi) >>= fun y => addD x y) r fun d => .nx (r.set 7 (.sh d))) else (.nx r)).seq fun r => ((lift (((getS 2 r) >>= fun x => (.ok (.int 6)) >>= fun y => eqD x y) >>= asB) r fun t => if t = true then (lift ((.ok (.str " ")) >>= fun a => isTxt a >>= fun a => (((getS 4 r) >>= fun a => isTxt a >>= fun a => (.ok (.str " ")) >>= fun d => splitD a d) >>= fun d => ((.ok (.int 1)) >>= fun d => asI d >>= fun i => .ok (some i)) >>= fun lo => (.ok none) >>= fun hi => sliceD d lo hi) >>= fun d => joinD a d) r fun d => .nx (r.set 7 (.sh d))) else (.nx r)).seq fun r => ((lift (((getS 2 r) >>= fun x => (.ok (.int 7)) >>= fun y => eqD x y) >>= asB) r fun t => if t = true then (lift (((getS 4 r) >>= fun x => (.ok (.str " ")) >>= fun y => addD x y) >>= fun x => (((getS 4 r) >>= fun a => isTxt a >>= fun a => (.ok (.str " ")) >>= fun d => splitD a d) >>= fun x => (.ok (.int 0)) >>= fun y => ixD x y) >>= fun y => addD x y) r fun d => .nx (r.set 7 (.sh d))) else (.nx r)).seq fun r => (lift ((((getS 0 r) >>= fun d => (.ok none) >>= fun lo => ((getS 3 r) >>= fun d => asI d >>= fun i => .ok (some i)) >>= fun hi => sliceD d lo hi) >>= fun x => (((getS 7 r) >>= fun d => (.ok []) >>= fun ds => .ok (d :: ds)) >>= lstD) >>= fun y => addD x y) >>= fun x => ((getS 0 r) >>= fun d => (((getS 3 r) >>= fun x => (.ok (.int 1)) >>= fun y => addD x y) >>= fun d => asI d >>= fun i => .ok (some i)) >>= fun lo => (.ok none) >>= fun hi => sliceD d lo hi) >>= fun y => addD x y) r fun d => .rt d))))))))))))))))
def d_q_changed : List D → Res D := runD 2 N_q_changed.length e_q_changed
def e_Table_carries : Env → Oc := fun r => lift ((((getS 0 r) >>= fldD (plOf [2] "kept")) >>= fun d => (.ok []) >>= fun ds => .ok (d :: ds)) >>= one dictD) r fun d => .rt d
def d_Table_carries : List D → Res D := runD 1 N_Table_carries.length e_Table_carries
def mt_carries (c : Nat) : Option (List D → Res D) := if c = 2 then some d_Table_carries else none
def e_is_whole : Env → Oc := fun r => lift (((((getS 0 r) >>= fun d => ((.ok (.ty "int")) >>= fun d => (.ok []) >>= fun ds => .ok (d :: ds)) >>= fun ds => .ok (d :: ds)) >>= two (isD isC isU)) >>= asB) >>= fun t => if t = true then (((((getS 0 r) >>= fun d => ((.ok (.ty "bool")) >>= fun d => (.ok []) >>= fun ds => .ok (d :: ds)) >>= fun ds => .ok (d :: ds)) >>= two (isD isC isU)) >>= asB) >>= fun t => .ok (.bl (!t))) else .ok (.bl false)) r fun d => .rt d
def d_is_whole : List D → Res D := runD 1 N_is_whole.length e_is_whole
def are_rounds_l1 : D → Env → Oc := fun d r => (into ((nameG 2) d r)).seq fun r => ((lift ((((((getS 2 r) >>= fun d => (.ok []) >>= fun ds => .ok (d :: ds)) >>= d_is_whole) >>= asB) >>= fun t => .ok (!t)) >>= fun t => if t = true then .ok true else ((((getS 2 r) >>= fun x => (.ok (.int 2)) >>= fun y => ltD x y) >>= asB) >>= fun t => if t = true then .ok true else (((getS 2 r) >>= fun x => (.ok (.int 144)) >>= fun y => gtD x y) >>= asB))) r fun t => if t = true then (lift (.ok (.bl false)) r fun d => .rt d) else (.nx r)).seq fun r => (lift ((getS 1 r) >>= fun x => (getS 2 r) >>= fun y => mulD x y) r fun d => .nx (r.set 1 (.sh d))))
def e_are_rounds : Env → Oc := fun r => (lift ((((((getS 0 r) >>= fun d => ((((.ok (.ty "list")) >>= fun d => ((.ok (.ty "tuple")) >>= fun d => (.ok []) >>= fun ds => .ok (d :: ds)) >>= fun ds => .ok (d :: ds)) >>= tupD) >>= fun d => (.ok []) >>= fun ds => .ok (d :: ds)) >>= fun ds => .ok (d :: ds)) >>= two (isD isC isU)) >>= asB) >>= fun t => .ok (!t)) >>= fun t => if t = true then .ok true else (((((getS 0 r) >>= fun d => (.ok []) >>= fun ds => .ok (d :: ds)) >>= one lenD) >>= fun x => (.ok (.int 7)) >>= fun y => gtD x y) >>= asB)) r fun t => if t = true then (lift (.ok (.bl false)) r fun d => .rt d) else (.nx r)).seq fun r => ((lift (.ok (.int 1)) r fun d => .nx (r.set 1 (.sh d))).seq fun r => ((lift ((getS 0 r) >>= itemsD) r fun ds => forD (are_rounds_l1) ds r).seq fun r => (lift ((getS 1 r) >>= fun x => (.ok (.int 144)) >>= fun y => leD x y) r fun d => .rt d)))
def d_are_rounds : List D → Res D := runD 1 N_are_rounds.length e_are_rounds
def e_Rounds_init : Env → Oc := fun r => (lift (((((getS 1 r) >>= fun d => (.ok []) >>= fun ds => .ok (d :: ds)) >>= d_are_rounds) >>= asB) >>= fun t => .ok (!t)) r fun t => if t = true then (.er (.exc 11 []) r) else (.nx r)).seq fun r => (lift (((getS 1 r) >>= fun d => (.ok []) >>= fun ds => .ok (d :: ds)) >>= one tupleD) r fun d => setF 0 0 "rounds" .sh d r)
def d_Rounds_init : List D → Res D := runI 1 N_Rounds_init.length 0 e_Rounds_init
def number_read_l1 : D → Env → Oc := fun d r => (into ((nameG 1) d r)).seq fun r => (lift (((getS 1 r) >>= fun x => (.ok (.str "0123456789")) >>= fun y => notInS1 x y) >>= asB) r fun t => if t = true then (lift (.ok .non) r fun d => .rt d) else (.nx r))
def e_number_read : Env → Oc := fun r => (lift ((((.ok (.int 1)) >>= fun x => (((getS 0 r) >>= fun d => (.ok []) >>= fun ds => .ok (d :: ds)) >>= one lenD) >>= fun y => (leD x y >>= asB) >>= fun t => if t = true then ((.ok (.int 3)) >>= fun z => leD y z) >>= asB else .ok false) >>= fun t => .ok (!t)) >>= fun t => if t = true then .ok true else ((((((getS 0 r) >>= fun d => (.ok []) >>= fun ds => .ok (d :: ds)) >>= one lenD) >>= fun x => (.ok (.int 1)) >>= fun y => gtD x y) >>= asB) >>= fun t => if t = true then ((((getS 0 r) >>= fun x => (.ok (.int 0)) >>= fun y => ixD x y) >>= fun x => (.ok (.str "0")) >>= fun y => eqD x y) >>= asB) else .ok false)) r fun t => if t = true then (lift (.ok .non) r fun d => .rt d) else (.nx r)).seq fun r => ((lift ((getS 0 r) >>= itemsD) r fun ds => forD (number_read_l1) ds r).seq fun r => (lift (((getS 0 r) >>= fun d => (.ok []) >>= fun ds => .ok (d :: ds)) >>= one intD) r fun d => .rt d))
def d_number_read : List D → Res D := runD 1 N_number_read.length e_number_read
def rounds_or_none_c1 (r : Env) (ds : List D) : Res (List D) := lcD (nameG 2)
  (fun r => .ok true)
  (fun r => ((getS 2 r) >>= fun d => (.ok []) >>= fun ds => .ok (d :: ds)) >>= d_number_read)
  (wipeR r [2]) ds
def e_rounds_or_none : Env → Oc := fun r => (lift (((getS 0 r) >>= fun x => (.ok (.str "1")) >>= fun y => eqD x y) >>= asB) r fun t => if t = true then (lift ((((.ok []) >>= lstD) >>= fun d => (.ok []) >>= fun ds => .ok (d :: ds)) >>= d_Rounds_init) r fun d => .rt d) else (.nx r)).seq fun r => ((lift (.ok .non) r fun d => .nx (r.set 1 (.sh d))).seq fun r => ((tryD ctC ctU (fun r => lift ((((((getS 0 r) >>= fun a => isTxt a >>= fun a => (.ok (.str "x")) >>= fun d => splitD a d) >>= itemsD) >>= fun ds => rounds_or_none_c1 r ds >>= lstD) >>= fun d => (.ok []) >>= fun ds => .ok (d :: ds)) >>= d_Rounds_init) r fun d => .nx (r.set 1 (.sh d))) [⟨11, none, fun r => lift (.ok .non) r fun d => .nx (r.set 1 (.sh d))⟩] r).seq fun r => (lift (getS 1 r) r fun d => .rt d)))
def d_rounds_or_none : List D → Res D := runD 1 N_rounds_or_none.length e_rounds_or_none
def groups_read_c1 (r : Env) (ds : List D) : Res (List D) := lcD (nameG 2)
  (fun r => .ok true)
  (fun r => ((getS 2 r) >>= fun d => (.ok []) >>= fun ds => .ok (d :: ds)) >>= d_rounds_or_none)
  (wipeR r [2]) ds
def e_groups_read : Env → Oc := fun r => (lift (((((getS 0 r) >>= fun d => (.ok []) >>= fun ds => .ok (d :: ds)) >>= one lenD) >>= fun x => (.ok (.int 0)) >>= fun y => eqD x y) >>= asB) r fun t => if t = true then (lift ((.ok (.int 0)) >>= fun d => (.ok []) >>= fun ds => .ok (d :: ds)) r fun ds => raiseD 22 ds r) else (.nx r)).seq fun r => ((shareAt 1 (lift (((((getS 0 r) >>= fun x => (.ok (.int 0)) >>= fun y => ixD x y) >>= fun a => isTxt a >>= fun a => (.ok (.str " ")) >>= fun d => splitD a d) >>= itemsD) >>= fun ds => groups_read_c1 r ds >>= lstD) r fun d => .nx (r.set 1 (.ow .flat d)))).seq fun r => ((lift ((((((getS 1 r) >>= fun d => (.ok []) >>= fun ds => .ok (d :: ds)) >>= one lenD) >>= fun x => (.ok (.int 2)) >>= fun y => neD x y) >>= asB) >>= fun t => if t = true then .ok true else (((.ok .non) >>= fun x => (getS 1 r) >>= fun y => inNone 0 x y) >>= asB)) r fun t => if t = true then (lift ((.ok (.int 0)) >>= fun d => (.ok []) >>= fun ds => .ok (d :: ds)) r fun ds => raiseD 22 ds r) else (.nx r)).seq fun r => (lift (getS 1 r) r fun d => .rt d)))
def d_groups_read : List D → Res D := runD 1 N_groups_read.length e_groups_read
def Rounds_members_c1 (r : Env) (ds : List D) : Res (List D) := lcD (nameG 5)
  (fun r => .ok true)
  (fun r => (getS 4 r) >>= fun x => (((getS 5 r) >>= fun d => (.ok []) >>= fun ds => .ok (d :: ds)) >>= tupD) >>= fun y => addD x y)
  (wipeR r [5]) ds
def Rounds_members_l2 : D → Env → Oc := fun d r => (into ((nameG 4) d r)).seq fun r => (extG 3 (fun r => (((getS 2 r) >>= fun d => (.ok []) >>= fun ds => .ok (d :: ds)) >>= rng1) >>= fun ds => Rounds_members_c1 r ds >>= lstD) r)
def Rounds_members_l3 : D → Env → Oc := fun d r => (into ((nameG 2) d r)).seq fun r => ((lift ((.ok []) >>= lstD) r fun d => .nx (r.set 3 (.ow .flat d))).seq fun r => ((lift ((getS 1 r) >>= itemsD) r fun ds => forD (Rounds_members_l2) ds r).seq fun r => (frzAt 3 (fun r => lift (getS 3 r) r fun d => .nx (r.set 1 (.sh d))) r)))
def e_Rounds_members : Env → Oc := fun r => (lift ((((.ok []) >>= tupD) >>= fun d => (.ok []) >>= fun ds => .ok (d :: ds)) >>= lstD) r fun d => .nx (r.set 1 (.sh d))).seq fun r => ((lift (((getS 0 r) >>= fldD (plOf [0] "rounds")) >>= itemsD) r fun ds => forD (Rounds_members_l3) ds r).seq fun r => (lift (getS 1 r) r fun d => .rt d))
def d_Rounds_members : List D → Res D := runD 1 N_Rounds_members.length e_Rounds_members
def mt_members (c : Nat) : Option (List D → Res D) := if c = 0 then some d_Rounds_members else none
def e_Group_size : Env → Oc := fun r => lift ((((getS 0 r) >>= fun d => mthD mt_members d >>= fun g => g []) >>= fun d => (.ok []) >>= fun ds => .ok (d :: ds)) >>= one lenD) r fun d => .rt d
def d_Group_size : List D → Res D := runD 1 N_Group_size.length e_Group_size
def mt_size (c : Nat) : Option (List D → Res D) := if c = 0 then some d_Group_size else none
def e_Rounds_is_even : Env → Oc := fun r => lift (.ok (.bl true)) r fun d => .rt d
def d_Rounds_is_even : List D → Res D := runD 1 N_Rounds_is_even.length e_Rounds_is_even
def mt_is_even (c : Nat) : Option (List D → Res D) := if c = 0 then some d_Rounds_is_even else none
def e_look_at_groups : Env → Oc := fun r => (lift (((((getS 0 r) >>= fun d => mthD mt_size d >>= fun g => g []) >>= fun x => (.ok (.int 16)) >>= fun y => gtD x y) >>= asB) >>= fun t => if t = true then .ok true else ((((getS 0 r) >>= fun d => mthD mt_is_even d >>= fun g => g []) >>= asB) >>= fun t => .ok (!t))) r fun t => if t = true then (.er (.exc 13 []) r) else (.nx r)).seq fun r => (lift ((((((getS 1 r) >>= fun d => ((.ok (.cls 0)) >>= fun d => (.ok []) >>= fun ds => .ok (d :: ds)) >>= fun ds => .ok (d :: ds)) >>= two (isD isC isU)) >>= asB) >>= fun t => .ok (!t)) >>= fun t => if t = true then .ok true else ((((getS 1 r) >>= fun d => mthD mt_size d >>= fun g => g []) >>= fun x => (.ok (.int 9)) >>= fun y => gtD x y) >>= asB)) r fun t => if t = true then (.er (.exc 14 []) r) else (.nx r))
def d_look_at_groups : List D → Res D := runD 2 N_look_at_groups.length e_look_at_groups
def Rounds_has_l1 : D → Env → Oc := fun d r => (into ((tupG 2 (consG (nameG 2) (consG (nameG 3) (nilG)))) d r)).seq fun r => (lift ((((((getS 2 r) >>= fun d => (.ok []) >>= fun ds => .ok (d :: ds)) >>= d_is_whole) >>= asB) >>= fun t => .ok (!t)) >>= fun t => if t = true then .ok true else ((((getS 2 r) >>= fun x => (.ok (.int 0)) >>= fun y => ltD x y) >>= asB) >>= fun t => if t = true then .ok true else (((getS 2 r) >>= fun x => (getS 3 r) >>= fun y => geD x y) >>= asB))) r fun t => if t = true then (lift (.ok (.bl false)) r fun d => .rt d) else (.nx r))
def e_Rounds_has : Env → Oc := fun r => (lift ((((((getS 1 r) >>= fun d => ((.ok (.ty "tuple")) >>= fun d => (.ok []) >>= fun ds => .ok (d :: ds)) >>= fun ds => .ok (d :: ds)) >>= two (isD isC isU)) >>= asB) >>= fun t => .ok (!t)) >>= fun t => if t = true then .ok true else (((((getS 1 r) >>= fun d => (.ok []) >>= fun ds => .ok (d :: ds)) >>= one lenD) >>= fun x => ((((getS 0 r) >>= fldD (plOf [0] "rounds")) >>= fun d => (.ok []) >>= fun ds => .ok (d :: ds)) >>= one lenD) >>= fun y => neD x y) >>= asB)) r fun t => if t = true then (lift (.ok (.bl false)) r fun d => .rt d) else (.nx r)).seq fun r => ((lift (((getS 1 r) >>= fun d => (((getS 0 r) >>= fldD (plOf [0] "rounds")) >>= fun d => (.ok []) >>= fun ds => .ok (d :: ds)) >>= fun ds => .ok (d :: ds)) >>= zip2D) r fun ds => forD (Rounds_has_l1) ds r).seq fun r => (lift (.ok (.bl true)) r fun d => .rt d))
def d_Rounds_has : List D → Res D := runD 2 N_Rounds_has.length e_Rounds_has
def mt_has (c : Nat) : Option (List D → Res D) := if c = 0 then some d_Rounds_has else none
def element_or_none_c1 (r : Env) (ds : List D) : Res (List D) := lcD (nameG 3)
  (fun r => .ok true)
  (fun r => ((getS 3 r) >>= fun d => (.ok []) >>= fun ds => .ok (d :: ds)) >>= d_number_read)
  (wipeR r [3]) ds
def e_element_or_none : Env → Oc := fun r => (lift ((((((getS 1 r) >>= fun a => isTxt a >>= fun a => (.ok (.str ",")) >>= fun d => splitD a d) >>= itemsD) >>= fun ds => element_or_none_c1 r ds >>= lstD) >>= fun d => (.ok []) >>= fun ds => .ok (d :: ds)) >>= one tupleD) r fun d => .nx (r.set 2 (.sh d))).seq fun r => ((lift (((getS 1 r) >>= fun x => (.ok (.str "-")) >>= fun y => eqD x y) >>= asB) r fun t => if t = true then (lift ((.ok []) >>= tupD) r fun d => .nx (r.set 2 (.sh d))) else (.nx r)).seq fun r => ((lift (((getS 0 r) >>= fun d => mthD mt_has d >>= fun g => ((getS 2 r) >>= fun d => (.ok []) >>= fun ds => .ok (d :: ds)) >>= g) >>= asB) r fun t => if t = true then (lift (getS 2 r) r fun d => .rt d) else (.nx r)).seq fun r => (lift (.ok .non) r fun d => .rt d)))
def d_element_or_none : List D → Res D := runD 2 N_element_or_none.length e_element_or_none
def row_read_c1 (r : Env) (ds : List D) : Res (List D) := lcD (nameG 5)
  (fun r => .ok true)
  (fun r => ((getS 0 r) >>= fun d => ((getS 5 r) >>= fun d => (.ok []) >>= fun ds => .ok (d :: ds)) >>= fun ds => .ok (d :: ds)) >>= d_element_or_none)
  (wipeR r [5]) ds
def e_row_read : Env → Oc := fun r => (lift (((getS 2 r) >>= fun x => (((getS 1 r) >>= fun d => (.ok []) >>= fun ds => .ok (d :: ds)) >>= one lenD) >>= fun y => geD x y) >>= asB) r fun t => if t = true then (lift ((getS 2 r) >>= fun d => (.ok []) >>= fun ds => .ok (d :: ds)) r fun ds => raiseD 22 ds r) else (.nx r)).seq fun r => ((shareAt 4 (lift (((((getS 1 r) >>= fun x => (getS 2 r) >>= fun y => ixD x y) >>= fun a => isTxt a >>= fun a => (.ok (.str " ")) >>= fun d => splitD a d) >>= itemsD) >>= fun ds => row_read_c1 r ds >>= lstD) r fun d => .nx (r.set 4 (.ow .flat d)))).seq fun r => ((lift ((((((getS 4 r) >>= fun d => (.ok []) >>= fun ds => .ok (d :: ds)) >>= one lenD) >>= fun x => (getS 3 r) >>= fun y => neD x y) >>= asB) >>= fun t => if t = true then .ok true else (((.ok .non) >>= fun x => (getS 4 r) >>= fun y => inNone 0 x y) >>= asB)) r fun t => if t = true then (lift ((getS 2 r) >>= fun d => (.ok []) >>= fun ds => .ok (d :: ds)) r fun ds => raiseD 22 ds r) else (.nx r)).seq fun r => (lift (getS 4 r) r fun d => .rt d)))
def d_row_read : List D → Res D := runD 4 N_row_read.length e_row_read
def Table_init_l1 : D → Env → Oc := fun d r => (into ((nameG 6) d r)).seq fun r => ((lift ((((((getS 5 r) >>= fun d => ((getS 6 r) >>= fun d => (.ok []) >>= fun ds => .ok (d :: ds)) >>= fun ds => .ok (d :: ds)) >>= tupD) >>= fun x => (getS 3 r) >>= fun y => notInD x y) >>= asB) >>= fun t => if t = true then .ok true else ((((getS 1 r) >>= fun d => mthD mt_has d >>= fun g => (((getS 3 r) >>= fun x => (((getS 5 r) >>= fun d => ((getS 6 r) >>= fun d => (.ok []) >>= fun ds => .ok (d :: ds)) >>= fun ds => .ok (d :: ds)) >>= tupD) >>= fun y => ixD x y) >>= fun d => (.ok []) >>= fun ds => .ok (d :: ds)) >>= g) >>= asB) >>= fun t => .ok (!t))) r fun t => if t = true then (lift ((getS 5 r) >>= fun d => ((getS 6 r) >>= fun d => (.ok []) >>= fun ds => .ok (d :: ds)) >>= fun ds => .ok (d :: ds)) r fun ds => raiseD 23 ds r) else (.nx r)).seq fun r => (setFI 0 2 2 (fun r => (getS 3 r) >>= fun x => (((getS 5 r) >>= fun d => ((getS 6 r) >>= fun d => (.ok []) >>= fun ds => .ok (d :: ds)) >>= fun ds => .ok (d :: ds)) >>= tupD) >>= fun y => ixD x y) (fun r => ((getS 5 r) >>= fun d => ((getS 6 r) >>= fun d => (.ok []) >>= fun ds => .ok (d :: ds)) >>= fun ds => .ok (d :: ds)) >>= tupD) r))
def Table_init_l2 : D → Env → Oc := fun d r => (into ((nameG 5) d r)).seq fun r => (lift ((getS 4 r) >>= itemsD) r fun ds => forD (Table_init_l1) ds r)
def e_Table_init : Env → Oc := fun r => (lift (((getS 1 r) >>= fun d => ((getS 2 r) >>= fun d => (.ok []) >>= fun ds => .ok (d :: ds)) >>= fun ds => .ok (d :: ds)) >>= d_look_at_groups) r fun _ => .nx r).seq fun r => ((lift (getS 1 r) r fun d => setF 0 2 "lower" .sh d r).seq fun r => ((lift (getS 2 r) r fun d => setF 0 2 "upper" .sh d r).seq fun r => ((lift (.ok (.dic [] [])) r fun d => setF 0 2 "kept" .flat d r).seq fun r => ((lift ((getS 2 r) >>= fun d => mthD mt_members d >>= fun g => g []) r fun d => .nx (r.set 4 (.sh d))).seq fun r => (lift ((getS 4 r) >>= itemsD) r fun ds => forD (Table_init_l2) ds r)))))
def d_Table_init : List D → Res D := runI 3 N_Table_init.length 2 e_Table_init
def read_table_l1 : D → Env → Oc := fun d r => (into ((tupG 2 (consG (nameG 7) (consG (nameG 8) (nilG)))) d r)).seq fun r => (setG 4 (fun r => getS 8 r) (fun r => ((getS 6 r) >>= fun d => ((getS 7 r) >>= fun d => (.ok []) >>= fun ds => .ok (d :: ds)) >>= fun ds => .ok (d :: ds)) >>= tupD) r)
def read_table_l2 : D → Env → Oc := fun d r => (into ((tupG 2 (consG (nameG 5) (consG (nameG 6) (nilG)))) d r)).seq fun r => (lift (((getS 3 r) >>= fun d => ((((getS 1 r) >>= fun d => ((getS 0 r) >>= fun d => (((getS 5 r) >>= fun x => (.ok (.int 1)) >>= fun y => addD x y) >>= fun d => ((((getS 3 r) >>= fun d => (.ok []) >>= fun ds => .ok (d :: ds)) >>= one lenD) >>= fun d => (.ok []) >>= fun ds => .ok (d :: ds)) >>= fun ds => .ok (d :: ds)) >>= fun ds => .ok (d :: ds)) >>= fun ds => .ok (d :: ds)) >>= d_row_read) >>= fun d => (.ok []) >>= fun ds => .ok (d :: ds)) >>= fun ds => .ok (d :: ds)) >>= zip2D) r fun ds => forD (read_table_l1) ds r)
def e_read_table : Env → Oc := fun r => (lift (((getS 0 r) >>= fun d => (.ok []) >>= fun ds => .ok (d :: ds)) >>= d_groups_read) r fun d => into ((lstG 2 (consG (nameG 1) (consG (nameG 2) (nilG)))) d r)).seq fun r => ((lift (((getS 1 r) >>= fun d => ((getS 2 r) >>= fun d => (.ok []) >>= fun ds => .ok (d :: ds)) >>= fun ds => .ok (d :: ds)) >>= d_look_at_groups) r fun _ => .nx r).seq fun r => ((lift ((getS 2 r) >>= fun d => mthD mt_members d >>= fun g => g []) r fun d => .nx (r.set 3 (.sh d))).seq fun r => ((lift (.ok (.dic [] [])) r fun d => .nx (r.set 4 (.ow .flat d))).seq fun r => ((lift (((getS 3 r) >>= fun d => (.ok []) >>= fun ds => .ok (d :: ds)) >>= enumS) r fun ds => forD (read_table_l2) ds r).seq fun r => ((lift (((((getS 0 r) >>= fun d => (.ok []) >>= fun ds => .ok (d :: ds)) >>= one lenD) >>= fun x => ((((getS 3 r) >>= fun d => (.ok []) >>= fun ds => .ok (d :: ds)) >>= one lenD) >>= fun x => (.ok (.int 1)) >>= fun y => addD x y) >>= fun y => gtD x y) >>= asB) r fun t => if t = true then (lift (((((getS 3 r) >>= fun d => (.ok []) >>= fun ds => .ok (d :: ds)) >>= one lenD) >>= fun x => (.ok (.int 1)) >>= fun y => addD x y) >>= fun d => (.ok []) >>= fun ds => .ok (d :: ds)) r fun ds => raiseD 22 ds r) else (.nx r)).seq fun r => (frzAt 4 (fun r => lift (((getS 1 r) >>= fun d => ((getS 2 r) >>= fun d => ((getS 4 r) >>= fun d => (.ok []) >>= fun ds => .ok (d :: ds)) >>= fun ds => .ok (d :: ds)) >>= fun ds => .ok (d :: ds)) >>= d_Table_init) r fun d => .rt d) r))))))
def d_read_table : List D → Res D := runD 1 N_read_table.length e_read_table
def e_q_told : Env → Oc := fun r => (lift (.ok .non) r fun d => .nx (r.set 1 (.sh d))).seq fun r => ((tryD ctC ctU (fun r => lift (((.ok (.str "read")) >>= fun d => (((((getS 0 r) >>= fun d => (.ok []) >>= fun ds => .ok (d :: ds)) >>= d_read_table) >>= fun d => mthD mt_carries d >>= fun g => g []) >>= fun d => (.ok []) >>= fun ds => .ok (d :: ds)) >>= fun ds => .ok (d :: ds)) >>= tupD) r fun d => .nx (r.set 1 (.sh d))) [⟨22, some 2, fun r => (lift (((.ok (.str "text")) >>= fun d => (((getS 2 r) >>= fldE (plOf [22] "at")) >>= fun d => (.ok []) >>= fun ds => .ok (d :: ds)) >>= fun ds => .ok (d :: ds)) >>= tupD) r fun d => .nx (r.set 1 (.sh d))).seq fun r => (lift ((((((getS 2 r) >>= fldE (plOf [22] "at")) >>= fun d => ((.ok (.ty "bool")) >>= fun d => (.ok []) >>= fun ds => .ok (d :: ds)) >>= fun ds => .ok (d :: ds)) >>= two (isD isC isU)) >>= asB) >>= fun t => if t = true then .ok true else ((((((getS 2 r) >>= fun d => ((.ok (.cls 10)) >>= fun d => (.ok []) >>= fun ds => .ok (d :: ds)) >>= fun ds => .ok (d :: ds)) >>= two (isD isC isU)) >>= asB) >>= fun t => .ok (!t)) >>= fun t => if t = true then .ok true else (((((getS 2 r) >>= fun d => ((.ok (.ty "ValueError")) >>= fun d => (.ok []) >>= fun ds => .ok (d :: ds)) >>= fun ds => .ok (d :: ds)) >>= two (isD isC isU)) >>= asB) >>= fun t => .ok (!t)))) r fun t => if t = true then (lift (.ok .non) r fun d => .nx (r.set 1 (.sh d))) else (.nx r))⟩, ⟨13, none, fun r => lift (((.ok (.str "lower")) >>= fun d => (.ok []) >>= fun ds => .ok (d :: ds)) >>= tupD) r fun d => .nx (r.set 1 (.sh d))⟩, ⟨14, none, fun r => lift (((.ok (.str "upper")) >>= fun d => (.ok []) >>= fun ds => .ok (d :: ds)) >>= tupD) r fun d => .nx (r.set 1 (.sh d))⟩] r).seq fun r => (lift (getS 1 r) r fun d => .rt d))
def d_q_told : List D → Res D := runD 1 N_q_told.length e_q_told
def q_number_read_c1 (r : Env) (ds : List D) : Res (List D) := lcD (nameG 1)
  (fun r => .ok true)
  (fun r => (getS 1 r) >>= fun x => (.ok (.str "0123456789")) >>= fun y => inS1 x y)
  (wipeR r [1]) ds
def e_q_number_read : Env → Oc := fun r => (lift ((((((getS 0 r) >>= fun d => (.ok []) >>= fun ds => .ok (d :: ds)) >>= one lenD) >>= fun x => (.ok (.int 1)) >>= fun y => ltD x y) >>= asB) >>= fun t => if t = true then .ok true else ((((((getS 0 r) >>= fun d => (.ok []) >>= fun ds => .ok (d :: ds)) >>= one lenD) >>= fun x => (.ok (.int 3)) >>= fun y => gtD x y) >>= asB) >>= fun t => if t = true then .ok true else ((((((getS 0 r) >>= fun d => (.ok []) >>= fun ds => .ok (d :: ds)) >>= one lenD) >>= fun x => (.ok (.int 1)) >>= fun y => gtD x y) >>= asB) >>= fun t => if t = true then ((((getS 0 r) >>= fun x => (.ok (.int 0)) >>= fun y => ixD x y) >>= fun x => (.ok (.str "0")) >>= fun y => eqD x y) >>= asB) else .ok false))) r fun t => if t = true then (lift (.ok .non) r fun d => .rt d) else (.nx r)).seq fun r => ((lift (((((((getS 0 r) >>= itemsD) >>= fun ds => q_number_read_c1 r ds >>= lstD) >>= fun d => (.ok []) >>= fun ds => .ok (d :: ds)) >>= one allT) >>= asB) >>= fun t => .ok (!t)) r fun t => if t = true then (lift (.ok .non) r fun d => .rt d) else (.nx r)).seq fun r => (lift (((getS 0 r) >>= fun d => (.ok []) >>= fun ds => .ok (d :: ds)) >>= one intD) r fun d => .rt d))
def d_q_number_read : List D → Res D := runD 1 N_q_number_read.length e_q_number_read
def q_rounds_read_c1 (r : Env) (ds : List D) : Res (List D) := lcD (nameG 4)
  (fun r => .ok true)
  (fun r => ((getS 4 r) >>= fun d => (.ok []) >>= fun ds => .ok (d :: ds)) >>= d_q_number_read)
  (wipeR r [4]) ds
def q_rounds_read_l2 : D → Env → Oc := fun d r => (into ((nameG 3) d r)).seq fun r => ((lift ((((getS 3 r) >>= fun x => (.ok .non) >>= fun y => isN x y) >>= asB) >>= fun t => if t = true then .ok true else (((getS 3 r) >>= fun x => (.ok (.int 2)) >>= fun y => ltD x y) >>= asB)) r fun t => if t = true then (lift (.ok .non) r fun d => .rt d) else (.nx r)).seq fun r => (lift ((getS 2 r) >>= fun x => (getS 3 r) >>= fun y => mulD x y) r fun d => .nx (r.set 2 (.sh d))))
def e_q_rounds_read : Env → Oc := fun r => (lift (((getS 0 r) >>= fun x => (.ok (.str "1")) >>= fun y => eqD x y) >>= asB) r fun t => if t = true then (lift ((.ok []) >>= tupD) r fun d => .rt d) else (.nx r)).seq fun r => ((lift ((((((getS 0 r) >>= fun a => isTxt a >>= fun a => (.ok (.str "x")) >>= fun d => splitD a d) >>= itemsD) >>= fun ds => q_rounds_read_c1 r ds >>= lstD) >>= fun d => (.ok []) >>= fun ds => .ok (d :: ds)) >>= one tupleD) r fun d => .nx (r.set 1 (.sh d))).seq fun r => ((lift (.ok (.int 1)) r fun d => .nx (r.set 2 (.sh d))).seq fun r => ((lift ((getS 1 r) >>= itemsD) r fun ds => forD (q_rounds_read_l2) ds r).seq fun r => ((lift ((((((getS 1 r) >>= fun d => (.ok []) >>= fun ds => .ok (d :: ds)) >>= one lenD) >>= fun x => (.ok (.int 7)) >>= fun y => gtD x y) >>= asB) >>= fun t => if t = true then .ok true else (((getS 2 r) >>= fun x => (.ok (.int 144)) >>= fun y => gtD x y) >>= asB)) r fun t => if t = true then (lift (.ok .non) r fun d => .rt d) else (.nx r)).seq fun r => (lift (getS 1 r) r fun d => .rt d)))))
def d_q_rounds_read : List D → Res D := runD 1 N_q_rounds_read.length e_q_rounds_read
def q_size_l1 : D → Env → Oc := fun d r => (into ((nameG 2) d r)).seq fun r => (lift ((getS 1 r) >>= fun x => (getS 2 r) >>= fun y => mulD x y) r fun d => .nx (r.set 1 (.sh d)))
def e_q_size : Env → Oc := fun r => (lift (.ok (.int 1)) r fun d => .nx (r.set 1 (.sh d))).seq fun r => ((lift ((getS 0 r) >>= itemsD) r fun ds => forD (q_size_l1) ds r).seq fun r => (lift (getS 1 r) r fun d => .rt d))
def d_q_size : List D → Res D := runD 1 N_q_size.length e_q_size
def q_element_read_c1 (r : Env) (ds : List D) : Res (List D) := lcD (nameG 5)
  (fun r => .ok true)
  (fun r => ((getS 5 r) >>= fun d => (.ok []) >>= fun ds => .ok (d :: ds)) >>= d_q_number_read)
  (wipeR r [5]) ds
def q_element_read_l2 : D → Env → Oc := fun d r => (into ((tupG 2 (consG (nameG 3) (consG (nameG 4) (nilG)))) d r)).seq fun r => (lift ((((getS 3 r) >>= fun x => (.ok .non) >>= fun y => isN x y) >>= asB) >>= fun t => if t = true then .ok true else (((getS 3 r) >>= fun x => (getS 4 r) >>= fun y => geD x y) >>= asB)) r fun t => if t = true then (lift (.ok .non) r fun d => .rt d) else (.nx r))
def e_q_element_read : Env → Oc := fun r => (lift ((((((getS 1 r) >>= fun a => isTxt a >>= fun a => (.ok (.str ",")) >>= fun d => splitD a d) >>= itemsD) >>= fun ds => q_element_read_c1 r ds >>= lstD) >>= fun d => (.ok []) >>= fun ds => .ok (d :: ds)) >>= one tupleD) r fun d => .nx (r.set 2 (.sh d))).seq fun r => ((lift (((getS 1 r) >>= fun x => (.ok (.str "-")) >>= fun y => eqD x y) >>= asB) r fun t => if t = true then (lift ((.ok []) >>= tupD) r fun d => .nx (r.set 2 (.sh d))) else (.nx r)).seq fun r => ((lift (((((getS 2 r) >>= fun d => (.ok []) >>= fun ds => .ok (d :: ds)) >>= one lenD) >>= fun x => (((getS 0 r) >>= fun d => (.ok []) >>= fun ds => .ok (d :: ds)) >>= one lenD) >>= fun y => neD x y) >>= asB) r fun t => if t = true then (lift (.ok .non) r fun d => .rt d) else (.nx r)).seq fun r => ((lift (((getS 2 r) >>= fun d => ((getS 0 r) >>= fun d => (.ok []) >>= fun ds => .ok (d :: ds)) >>= fun ds => .ok (d :: ds)) >>= zip2D) r fun ds => forD (q_element_read_l2) ds r).seq fun r => (lift (getS 2 r) r fun d => .rt d))))
def d_q_element_read : List D → Res D := runD 2 N_q_element_read.length e_q_element_read
def q_due_c1 (r : Env) (ds : List D) : Res (List D) := lcD (nameG 11)
  (fun r => .ok true)
  (fun r => ((getS 11 r) >>= fun d => (.ok []) >>= fun ds => .ok (d :: ds)) >>= d_q_rounds_read)
  (wipeR r [11]) ds
def q_due_c2 (r : Env) (ds : List D) : Res (List D) := lcD (nameG 11)
  (fun r => .ok true)
  (fun r => ((getS 2 r) >>= fun d => ((getS 11 r) >>= fun d => (.ok []) >>= fun ds => .ok (d :: ds)) >>= fun ds => .ok (d :: ds)) >>= d_q_element_read)
  (wipeR r [11]) ds
def q_due_l3 : D → Env → Oc := fun d r => (into ((tupG 2 (consG (nameG 9) (consG (nameG 10) (nilG)))) d r)).seq fun r => (setG 5 (fun r => getS 10 r) (fun r => ((getS 7 r) >>= fun d => ((getS 9 r) >>= fun d => (.ok []) >>= fun ds => .ok (d :: ds)) >>= fun ds => .ok (d :: ds)) >>= tupD) r)
def q_due_l4 : D → Env → Oc := fun d r => (into ((tupG 2 (consG (nameG 6) (consG (nameG 7) (nilG)))) d r)).seq fun r => ((lift ((((getS 6 r) >>= fun x => (.ok (.int 1)) >>= fun y => addD x y) >>= fun x => (((getS 0 r) >>= fun d => (.ok []) >>= fun ds => .ok (d :: ds)) >>= one lenD) >>= fun y => geD x y) >>= asB) r fun t => if t = true then (lift (((.ok (.str "text")) >>= fun d => (((getS 6 r) >>= fun x => (.ok (.int 1)) >>= fun y => addD x y) >>= fun d => (.ok []) >>= fun ds => .ok (d :: ds)) >>= fun ds => .ok (d :: ds)) >>= tupD) r fun d => .rt d) else (.nx r)).seq fun r => ((shareAt 8 (lift (((((getS 0 r) >>= fun x => ((getS 6 r) >>= fun x => (.ok (.int 1)) >>= fun y => addD x y) >>= fun y => ixD x y) >>= fun a => isTxt a >>= fun a => (.ok (.str " ")) >>= fun d => splitD a d) >>= itemsD) >>= fun ds => q_due_c2 r ds >>= lstD) r fun d => .nx (r.set 8 (.ow .flat d)))).seq fun r => ((lift ((((((getS 8 r) >>= fun d => (.ok []) >>= fun ds => .ok (d :: ds)) >>= one lenD) >>= fun x => (((getS 4 r) >>= fun d => (.ok []) >>= fun ds => .ok (d :: ds)) >>= one lenD) >>= fun y => neD x y) >>= asB) >>= fun t => if t = true then .ok true else (((.ok .non) >>= fun x => (getS 8 r) >>= fun y => inNone 0 x y) >>= asB)) r fun t => if t = true then (lift (((.ok (.str "text")) >>= fun d => (((getS 6 r) >>= fun x => (.ok (.int 1)) >>= fun y => addD x y) >>= fun d => (.ok []) >>= fun ds => .ok (d :: ds)) >>= fun ds => .ok (d :: ds)) >>= tupD) r fun d => .rt d) else (.nx r)).seq fun r => (lift (((getS 4 r) >>= fun d => ((getS 8 r) >>= fun d => (.ok []) >>= fun ds => .ok (d :: ds)) >>= fun ds => .ok (d :: ds)) >>= zip2D) r fun ds => forD (q_due_l3) ds r))))
def e_q_due : Env → Oc := fun r => (lift (((((getS 0 r) >>= fun d => (.ok []) >>= fun ds => .ok (d :: ds)) >>= one lenD) >>= fun x => (.ok (.int 0)) >>= fun y => eqD x y) >>= asB) r fun t => if t = true then (lift (((.ok (.str "text")) >>= fun d => ((.ok (.int 0)) >>= fun d => (.ok []) >>= fun ds => .ok (d :: ds)) >>= fun ds => .ok (d :: ds)) >>= tupD) r fun d => .rt d) else (.nx r)).seq fun r => ((shareAt 1 (lift (((((getS 0 r) >>= fun x => (.ok (.int 0)) >>= fun y => ixD x y) >>= fun a => isTxt a >>= fun a => (.ok (.str " ")) >>= fun d => splitD a d) >>= itemsD) >>= fun ds => q_due_c1 r ds >>= lstD) r fun d => .nx (r.set 1 (.ow .flat d)))).seq fun r => ((lift ((((((getS 1 r) >>= fun d => (.ok []) >>= fun ds => .ok (d :: ds)) >>= one lenD) >>= fun x => (.ok (.int 2)) >>= fun y => neD x y) >>= asB) >>= fun t => if t = true then .ok true else (((.ok .non) >>= fun x => (getS 1 r) >>= fun y => inNone 0 x y) >>= asB)) r fun t => if t = true then (lift (((.ok (.str "text")) >>= fun d => ((.ok (.int 0)) >>= fun d => (.ok []) >>= fun ds => .ok (d :: ds)) >>= fun ds => .ok (d :: ds)) >>= tupD) r fun d => .rt d) else (.nx r)).seq fun r => ((lift (getS 1 r) r fun d => into ((lstG 2 (consG (nameG 2) (consG (nameG 3) (nilG)))) d r)).seq fun r => ((lift (((((getS 2 r) >>= fun d => (.ok []) >>= fun ds => .ok (d :: ds)) >>= d_q_size) >>= fun x => (.ok (.int 16)) >>= fun y => gtD x y) >>= asB) r fun t => if t = true then (lift (((.ok (.str "lower")) >>= fun d => (.ok []) >>= fun ds => .ok (d :: ds)) >>= tupD) r fun d => .rt d) else (.nx r)).seq fun r => ((lift (((((getS 3 r) >>= fun d => (.ok []) >>= fun ds => .ok (d :: ds)) >>= d_q_size) >>= fun x => (.ok (.int 9)) >>= fun y => gtD x y) >>= asB) r fun t => if t = true then (lift (((.ok (.str "upper")) >>= fun d => (.ok []) >>= fun ds => .ok (d :: ds)) >>= tupD) r fun d => .rt d) else (.nx r)).seq fun r => ((lift (((getS 3 r) >>= fun d => (.ok []) >>= fun ds => .ok (d :: ds)) >>= d_q_members) r fun d => .nx (r.set 4 (.sh d))).seq fun r => ((lift (.ok (.dic [] [])) r fun d => .nx (r.set 5 (.ow .flat d))).seq fun r => ((lift (((getS 4 r) >>= fun d => (.ok []) >>= fun ds => .ok (d :: ds)) >>= enumS) r fun ds => forD (q_due_l4) ds r).seq fun r => ((lift (((((getS 0 r) >>= fun d => (.ok []) >>= fun ds => .ok (d :: ds)) >>= one lenD) >>= fun x => ((((getS 4 r) >>= fun d => (.ok []) >>= fun ds => .ok (d :: ds)) >>= one lenD) >>= fun x => (.ok (.int 1)) >>= fun y => addD x y) >>= fun y => gtD x y) >>= asB) r fun t => if t = true then (lift (((.ok (.str "text")) >>= fun d => (((((getS 4 r) >>= fun d => (.ok []) >>= fun ds => .ok (d :: ds)) >>= one lenD) >>= fun x => (.ok (.int 1)) >>= fun y => addD x y) >>= fun d => (.ok []) >>= fun ds => .ok (d :: ds)) >>= fun ds => .ok (d :: ds)) >>= tupD) r fun d => .rt d) else (.nx r)).seq fun r => (frzAt 5 (fun r => lift (((.ok (.str "read")) >>= fun d => ((getS 5 r) >>= fun d => (.ok []) >>= fun ds => .ok (d :: ds)) >>= fun ds => .ok (d :: ds)) >>= tupD) r fun d => .rt d) r))))))))))
def d_q_due : List D → Res D := runD 1 N_q_due.length e_q_due
def law_s1 : Env → Oc := fun r => lift (((getS 0 r) >>= fun d => (.ok []) >>= fun ds => .ok (d :: ds)) >>= d_q_texts) r fun d => .nx (r.set 1 (.sh d))
def law_s2 : Env → Oc := fun r => lift (((getS 0 r) >>= fun d => ((.ok (.int 3)) >>= fun d => (.ok []) >>= fun ds => .ok (d :: ds)) >>= fun ds => .ok (d :: ds)) >>= d_q_cell) r fun d => .nx (r.set 2 (.sh d))
def law_s3_1 : Env → Oc := fun r => lift ((.ok []) >>= lstD) r fun d => .nx (r.set 1 (.sh d))
def law_s3 : Env → Oc := fun r => lift ((((getS 2 r) >>= fun x => (.ok (.int 30)) >>= fun y => modD x y) >>= fun x => (.ok (.int 7)) >>= fun y => eqD x y) >>= asB) r fun t => if t = true then (law_s3_1 r) else (.nx r)
def law_s4_1 : Env → Oc := fun r => lift (((getS 1 r) >>= fun d => ((((getS 0 r) >>= fun d => (((.ok (.int 4)) >>= fun x => (getS 3 r) >>= fun y => addD x y) >>= fun d => (.ok []) >>= fun ds => .ok (d :: ds)) >>= fun ds => .ok (d :: ds)) >>= d_q_cell) >>= fun d => (.ok []) >>= fun ds => .ok (d :: ds)) >>= fun ds => .ok (d :: ds)) >>= d_q_changed) r fun d => .nx (r.set 1 (.sh d))
def law_l1 : D → Env → Oc := fun d r => (into ((nameG 3) d r)).seq fun r => (law_s4_1 r)
def law_s4 : Env → Oc := fun r => lift (((((getS 2 r) >>= fun x => (.ok (.int 30)) >>= fun y => divD x y) >>= fun x => (.ok (.int 3)) >>= fun y => modD x y) >>= fun d => (.ok []) >>= fun ds => .ok (d :: ds)) >>= rng1) r fun ds => forD (law_l1) ds r
def law_s5 : Env → Oc := fun r => lift (((getS 1 r) >>= fun d => (.ok []) >>= fun ds => .ok (d :: ds)) >>= one listD) r fun d => .nx (r.set 4 (.sh d))
def law_s6 : Env → Oc := fun r => lift ((((((getS 4 r) >>= fun d => (.ok []) >>= fun ds => .ok (d :: ds)) >>= d_q_told) >>= fun x => (((getS 1 r) >>= fun d => (.ok []) >>= fun ds => .ok (d :: ds)) >>= d_q_due) >>= fun y => eqTD x y) >>= asB) >>= fun t => if t = true then ((getS 4 r) >>= fun x => (getS 1 r) >>= fun y => eqD x y) else .ok (.bl false)) r fun d => .rt d
def e_law : Env → Oc := fun r => (law_s1 r).seq fun r => ((law_s2 r).seq fun r => ((law_s3 r).seq fun r => ((law_s4 r).seq fun r => ((law_s5 r).seq fun r => (law_s6 r)))))
def d_law : List D → Res D := runD 1 N_law.length e_law
structure Txt (P : Program) (w : World) (K : PySem.W.Frag) (mg : Str → Option Value) (base : Heap) : Prop where
  zz : True
  n_range : mg "range" = none
  n_min : mg "min" = none
  n_tuple : mg "tuple" = none
  n_len : mg "len" = none
  n_sum : mg "sum" = none
  n_str : mg "str" = none
  n_enumerate : mg "enumerate" = none
  n_list : mg "list" = none
  n_dict : mg "dict" = none
  f_kept : FldM K (⟨P, w, K, mg⟩ : GC).ca "kept" (plOf [2] "kept")
  c_NoText : mg (cname 22) = some (.ref ((⟨P, w, K, mg⟩ : GC).ca 22))
  e_NoText : ExMA P w K mg base ((⟨P, w, K, mg⟩ : GC).ca 22) 22
  c_Rounds : mg (cname 0) = some (.ref ((⟨P, w, K, mg⟩ : GC).ca 0))
  n_isinstance : mg "isinstance" = none
  g_MOST_ROUNDS : ∃ t, mg "MOST_ROUNDS" = some (.int 7 t)
  n_int : mg "int" = none
  n_bool : mg "bool" = none
  g_MOST_ELEMENTS : ∃ t, mg "MOST_ELEMENTS" = some (.int 144 t)
  c_NoRounds : mg (cname 11) = some (.ref ((⟨P, w, K, mg⟩ : GC).ca 11))
  e_NoRounds : ExM0 K mg ((⟨P, w, K, mg⟩ : GC).ca 11) 11
  f_rounds : FldM K (⟨P, w, K, mg⟩ : GC).ca "rounds" (plOf [0] "rounds")
  cl_Rounds_rounds : ClM K (⟨P, w, K, mg⟩ : GC).ca "rounds" 0
  g_MOST_FIGURES : ∃ t, mg "MOST_FIGURES" = some (.int 3 t)
  g_FIGURES : ∃ t, mg "FIGURES" = some (.str "0123456789" t)
  q_Rounds : NoEqM K (⟨P, w, K, mg⟩ : GC).ca 0
  g_MOST_LOWER : ∃ t, mg "MOST_LOWER" = some (.int 16 t)
  c_NoLower : mg (cname 13) = some (.ref ((⟨P, w, K, mg⟩ : GC).ca 13))
  e_NoLower : ExM0 K mg ((⟨P, w, K, mg⟩ : GC).ca 13) 13
  g_MOST_UPPER : ∃ t, mg "MOST_UPPER" = some (.int 9 t)
  c_NoUpper : mg (cname 14) = some (.ref ((⟨P, w, K, mg⟩ : GC).ca 14))
  e_NoUpper : ExM0 K mg ((⟨P, w, K, mg⟩ : GC).ca 14) 14
  n_zip : mg "zip" = none
  c_Table : mg (cname 2) = some (.ref ((⟨P, w, K, mg⟩ : GC).ca 2))
  f_lower : FldM K (⟨P, w, K, mg⟩ : GC).ca "lower" (plOf [2] "lower")
  cl_Table_lower : ClM K (⟨P, w, K, mg⟩ : GC).ca "lower" 2
  f_upper : FldM K (⟨P, w, K, mg⟩ : GC).ca "upper" (plOf [2] "upper")
  cl_Table_upper : ClM K (⟨P, w, K, mg⟩ : GC).ca "upper" 2
  cl_Table_kept : ClM K (⟨P, w, K, mg⟩ : GC).ca "kept" 2
  c_NoCarry : mg (cname 23) = some (.ref ((⟨P, w, K, mg⟩ : GC).ca 23))
  e_NoCarry : ExMA P w K mg base ((⟨P, w, K, mg⟩ : GC).ca 23) 23
  x_at : FldX K (⟨P, w, K, mg⟩ : GC).ca "at" (plOf [22] "at")
  c_CarryError : mg (cname 10) = some (.ref ((⟨P, w, K, mg⟩ : GC).ca 10))
  n_ValueError : mg "ValueError" = none
  n_all : mg "all" = none
  isM : IsM K (⟨P, w, K, mg⟩ : GC).ca isC isU
  ctM : CtM K (⟨P, w, K, mg⟩ : GC).ca ctC ctU
section
variable {P : Program} {w : World} {K : PySem.W.Frag} {mg : Str → Option Value} {base : Heap}
theorem b_q_rounds (T : Txt P w K mg base) {f : Addr} (cdv : Value) (A : Around) (outer : List PySem.Env) (s : Shared) (H : Hp) (E : XK) (hr : Room 0 (A.deeper (envOfC "_law_rounds" (defScope s_q_rounds) s.heap.objs.size f cdv))) :
    RSs (cxOf (L2.CX P w) P w K mg base N_q_rounds "_law_rounds" (defScope s_q_rounds) f cdv A outer s H E) (WD E) .S (defBody s_q_rounds) e_q_rounds :=
  rss_cons (rs_setO 3 sc_q_rounds.nd (re_lst (ra_nil)))
    (rss_cons (rs_set 4 sc_q_rounds.nd (re_var 1))
    (rss_cons (rs_for (passes_of rfl) rfl (by exact (ri_range1 (b := true) T.n_range (rar_cons (re_rd (re_int)) (rar_nil)))) (by exact (gN 5 sc_q_rounds.nd))
    (by exact (rss_cons (rs_if (rt_pw (rw_and (rt_cp (c_gt) (re_rd (re_var 4)) (re_rd (re_int))) (rw_and1 (rt_cp (c_gt) (re_rd (re_mod (re_rd (re_var 0)) (re_rd (re_int)))) (re_rd (re_int))))))
    (rss_cons (rs_append 3 (re_add (re_rd (re_int)) (re_rd (re_mod (re_rd (re_div (re_rd (re_var 0)) (re_rd (re_int)))) (re_rd (re_sub (re_rd (re_blt (b_min rfl T.n_min) (rar_cons (re_rd (re_var 4)) (rar_cons (re_rd (re_var 2)) (rar_nil))))) (re_rd (re_int))))))))
    (rss_one (rs_set 4 sc_q_rounds.nd (re_div (re_rd (re_var 4)) (re_rd (re_ix hr (re_varR 3) (re_rd (re_neg (re_rd (re_int))))))))))
    (rss_nil))
    (rss_one (rs_set 0 sc_q_rounds.nd (re_div (re_rd (re_var 0)) (re_rd (re_int))))))))
    (rss_one (rs_ret (re_blt (b_tuple T.n_tuple) (rar_cons (re_varR 3) (rar_nil)))))))
theorem b_q_cell (T : Txt P w K mg base) {f : Addr} (cdv : Value) (A : Around) (outer : List PySem.Env) (s : Shared) (H : Hp) (E : XK) (hr : Room 0 (A.deeper (envOfC "_law_cell" (defScope s_q_cell) s.heap.objs.size f cdv))) :
    RSs (cxOf (L2.CX P w) P w K mg base N_q_cell "_law_cell" (defScope s_q_cell) f cdv A outer s H E) (WD E) .S (defBody s_q_cell) e_q_cell :=
  rss_cons (rs_set 2 sc_q_cell.nd (re_int))
    (rss_cons (rs_if (rt_cp (c_gt) (re_rd (re_blt (b_len T.n_len) (rar_cons (re_rd (re_var 0)) (rar_nil)))) (re_rd (re_int)))
    (rss_one (rs_set 2 sc_q_cell.nd (re_ix hr (re_rd (re_var 0)) (re_rd (re_mod (re_rd (re_var 1)) (re_rd (re_blt (b_len T.n_len) (rar_cons (re_rd (re_var 0)) (rar_nil)))))))))
    (rss_nil))
    (rss_cons (rs_if (rt_cp (c_eq hr) (re_rd (re_mod (re_rd (re_blt (b_sum rfl T.n_sum) (rar_cons (re_rd (re_var 0)) (rar_nil)))) (re_rd (re_int)))) (re_rd (re_int)))
    (rss_one (rs_ret (re_var 2)))
    (rss_nil))
    (rss_cons (rs_set 3 sc_q_cell.nd (re_mod (re_rd (re_mul (re_rd (re_add (re_rd (re_add (re_rd (re_mod (re_rd (re_var 2)) (re_rd (re_int)))) (re_rd (re_mul (re_rd (re_int)) (re_rd (re_var 1)))))) (re_rd (re_int)))) (re_rd (re_int)))) (re_rd (re_int))))
    (rss_one (rs_ret (re_add (re_rd (re_mul (re_rd (re_mod (re_rd (re_add (re_rd (re_mul (re_rd (re_var 3)) (re_rd (re_int)))) (re_rd (re_mul (re_rd (re_int)) (re_rd (re_var 1)))))) (re_rd (re_int)))) (re_rd (re_int)))) (re_rd (re_mod (re_rd (re_mul (re_rd (re_var 3)) (re_rd (re_int)))) (re_rd (re_int))))))))))
theorem b_q_rounds_text (T : Txt P w K mg base) {f : Addr} (cdv : Value) (A : Around) (outer : List PySem.Env) (s : Shared) (H : Hp) (E : XK) (hr : Room 0 (A.deeper (envOfC "_law_rounds_text" (defScope s_q_rounds_text) s.heap.objs.size f cdv))) :
    RSs (cxOf (L2.CX P w) P w K mg base N_q_rounds_text "_law_rounds_text" (defScope s_q_rounds_text) f cdv A outer s H E) (WD E) .S (defBody s_q_rounds_text) e_q_rounds_text :=
  rss_cons (rs_if (rt_cp (c_eq hr) (re_rd (re_blt (b_len T.n_len) (rar_cons (re_rd (re_var 0)) (rar_nil)))) (re_rd (re_int)))
    (rss_one (rs_ret (re_str)))
    (rss_nil))
    (rss_one (rs_ret (re_join (re_str) (re_rd (re_lc [("_law_number", 1)] rfl sc_q_rounds_text.nd (re_iter (re_var 0)) (blkOk_by (N := N_q_rounds_text) (sc := defScope s_q_rounds_text) (by decide +kernel)) (fun _ _ _ _ _ _ => by exact (gN 1 sc_q_rounds_text.nd)) (fun _ _ _ _ _ => by exact (rts_nil)) (fun _ _ _ _ _ => by exact (re_blt (b_str T.n_str) (rar_cons (re_rd (re_var 1)) (rar_nil)))))))))
theorem b_q_members (T : Txt P w K mg base) {f : Addr} (cdv : Value) (A : Around) (outer : List PySem.Env) (s : Shared) (H : Hp) (E : XK) (hr : Room 0 (A.deeper (envOfC "_law_members" (defScope s_q_members) s.heap.objs.size f cdv))) :
    RSs (cxOf (L2.CX P w) P w K mg base N_q_members "_law_members" (defScope s_q_members) f cdv A outer s H E) (WD E) .S (defBody s_q_members) e_q_members :=
  rss_cons (rs_set 1 sc_q_members.nd (re_share (re_lst (ra_cons (re_tup (ra_nil)) (ra_nil)))))
    (rss_cons (rs_for (passes_of rfl) rfl (by exact (re_iter (re_var 0))) (by exact (gN 2 sc_q_members.nd))
    (by exact (rss_cons (rs_setO 3 sc_q_members.nd (re_lst (ra_nil)))
    (rss_cons (rs_for (passes_of rfl) rfl (by exact (re_iter (re_var 1))) (by exact (gN 4 sc_q_members.nd))
    (by exact (rss_one (rs_for (passes_of rfl) rfl (by exact (ri_range1 (b := true) T.n_range (rar_cons (re_rd (re_var 2)) (rar_nil)))) (by exact (gN 5 sc_q_members.nd))
    (by exact (rss_one (rs_append 3 (re_add (re_rd (re_var 4)) (re_rd (re_tup (ra_cons (re_var 5) (ra_nil))))))))))))
    (rss_one (rs_frz 3 (rs_set 1 sc_q_members.nd (re_var 3))))))))
    (rss_one (rs_ret (re_var 1))))
theorem b_q_element (T : Txt P w K mg base) {f : Addr} (cdv : Value) (A : Around) (outer : List PySem.Env) (s : Shared) (H : Hp) (E : XK) (hr : Room 0 (A.deeper (envOfC "_law_element" (defScope s_q_element) s.heap.objs.size f cdv))) :
    RSs (cxOf (L2.CX P w) P w K mg base N_q_element "_law_element" (defScope s_q_element) f cdv A outer s H E) (WD E) .S (defBody s_q_element) e_q_element :=
  rss_cons (rs_setO 2 sc_q_element.nd (re_lst (ra_nil)))
    (rss_cons (rs_for (passes_of rfl) rfl (by exact (re_iter (re_var 0))) (by exact (gN 3 sc_q_element.nd))
    (by exact (rss_cons (rs_append 2 (re_mod (re_rd (re_var 1)) (re_rd (re_var 3))))
    (rss_one (rs_set 1 sc_q_element.nd (re_div (re_rd (re_var 1)) (re_rd (re_var 3))))))))
    (rss_one (rs_ret (re_blt (b_tuple T.n_tuple) (rar_cons (re_varR 2) (rar_nil))))))
theorem b_q_carries (T : Txt P w K mg base) (M_q_members : FnM P w K mg base 1 "_law_members" .S d_q_members) (M_q_cell : FnM P w K mg base 1 "_law_cell" .S d_q_cell) (M_q_element : FnM P w K mg base 1 "_law_element" .S d_q_element) {f : Addr} (cdv : Value) (A : Around) (outer : List PySem.Env) (s : Shared) (H : Hp) (E : XK) (hr : Room 1 (A.deeper (envOfC "_law_carries" (defScope s_q_carries) s.heap.objs.size f cdv))) :
    RSs (cxOf (L2.CX P w) P w K mg base N_q_carries "_law_carries" (defScope s_q_carries) f cdv A outer s H E) (WD E) .S (defBody s_q_carries) e_q_carries :=
  rss_cons (rs_set 4 sc_q_carries.nd (re_int))
    (rss_cons (rs_for (passes_of rfl) rfl (by exact (re_iter (re_var 0))) (by exact (gN 5 sc_q_carries.nd))
    (by exact (rss_one (rs_set 4 sc_q_carries.nd (re_mul (re_rd (re_var 4)) (re_rd (re_var 5)))))))
    (rss_cons (rs_setO 6 sc_q_carries.nd (re_dic0))
    (rss_cons (rs_for (passes_of rfl) rfl (by exact (ri_enumS T.n_enumerate (ra_cons (re_call M_q_members (hr.mono (by decide)) (takes_of rfl rfl rfl rfl) (ra_cons (re_var 1) (ra_nil))) (ra_nil)))) (by exact (gT 2 rfl (gsc (gN 7 sc_q_carries.nd) (gsc (gN 8 sc_q_carries.nd) (gs0)))))
    (by exact (rss_cons (rs_set 9 sc_q_carries.nd (re_call M_q_cell (hr.mono (by decide)) (takes_of rfl rfl rfl rfl) (ra_cons (re_var 2) (ra_cons (re_add (re_rd (re_var 3)) (re_rd (re_var 7))) (ra_nil)))))
    (rss_one (rs_for (passes_of rfl) rfl (by exact (re_iter (re_call M_q_members (hr.mono (by decide)) (takes_of rfl rfl rfl rfl) (ra_cons (re_var 1) (ra_nil))))) (by exact (gN 10 sc_q_carries.nd))
    (by exact (rss_cons (rs_setItem 6 hr (re_call M_q_element (hr.mono (by decide)) (takes_of rfl rfl rfl rfl) (ra_cons (re_var 0) (ra_cons (re_var 9) (ra_nil)))) (re_rd (re_tup (ra_cons (re_var 8) (ra_cons (re_var 10) (ra_nil))))))
    (rss_one (rs_set 9 sc_q_carries.nd (re_div (re_rd (re_var 9)) (re_rd (re_var 4))))))))))))
    (rss_one (rs_frz 6 (rs_ret (re_var 6)))))))
theorem b_q_text (T : Txt P w K mg base) {f : Addr} (cdv : Value) (A : Around) (outer : List PySem.Env) (s : Shared) (H : Hp) (E : XK) (hr : Room 0 (A.deeper (envOfC "_law_text" (defScope s_q_text) s.heap.objs.size f cdv))) :
    RSs (cxOf (L2.CX P w) P w K mg base N_q_text "_law_text" (defScope s_q_text) f cdv A outer s H E) (WD E) .S (defBody s_q_text) e_q_text :=
  rss_cons (rs_if (rt_cp (c_eq hr) (re_rd (re_blt (b_len T.n_len) (rar_cons (re_rd (re_var 0)) (rar_nil)))) (re_rd (re_int)))
    (rss_one (rs_ret (re_str)))
    (rss_nil))
    (rss_one (rs_ret (re_join (re_str) (re_rd (re_lc [("_law_number", 1)] rfl sc_q_text.nd (re_iter (re_var 0)) (blkOk_by (N := N_q_text) (sc := defScope s_q_text) (by decide +kernel)) (fun _ _ _ _ _ _ => by exact (gN 1 sc_q_text.nd)) (fun _ _ _ _ _ => by exact (rts_nil)) (fun _ _ _ _ _ => by exact (re_blt (b_str T.n_str) (rar_cons (re_rd (re_var 1)) (rar_nil)))))))))
theorem b_q_texts (T : Txt P w K mg base) (M_q_rounds : FnM P w K mg base 1 "_law_rounds" .S d_q_rounds) (M_q_cell : FnM P w K mg base 1 "_law_cell" .S d_q_cell) (M_q_rounds_text : FnM P w K mg base 1 "_law_rounds_text" .S d_q_rounds_text) (M_q_members : FnM P w K mg base 1 "_law_members" .S d_q_members) (M_q_carries : FnM P w K mg base 2 "_law_carries" .S d_q_carries) (M_q_text : FnM P w K mg base 1 "_law_text" .S d_q_text) {f : Addr} (cdv : Value) (A : Around) (outer : List PySem.Env) (s : Shared) (H : Hp) (E : XK) (hr : Room 2 (A.deeper (envOfC "_law_texts" (defScope s_q_texts) s.heap.objs.size f cdv))) :
    RSs (cxOf (L2.CX P w) P w K mg base N_q_texts "_law_texts" (defScope s_q_texts) f cdv A outer s H E) (WD E) .S (defBody s_q_texts) e_q_texts :=
  rss_cons (rs_set 1 sc_q_texts.nd (re_call M_q_rounds (hr.mono (by decide)) (takes_of rfl rfl rfl rfl) (ra_cons (re_call M_q_cell (hr.mono (by decide)) (takes_of rfl rfl rfl rfl) (ra_cons (re_var 0) (ra_cons (re_int) (ra_nil)))) (ra_cons (re_ix hr (re_rd (re_lst (ra_cons (re_int) (ra_cons (re_int) (ra_cons (re_int) (ra_cons (re_int) (ra_nil))))))) (re_rd (re_mod (re_rd (re_call M_q_cell (hr.mono (by decide)) (takes_of rfl rfl rfl rfl) (ra_cons (re_var 0) (ra_cons (re_int) (ra_nil))))) (re_rd (re_int))))) (ra_cons (re_int) (ra_nil))))))
    (rss_cons (rs_set 2 sc_q_texts.nd (re_call M_q_rounds (hr.mono (by decide)) (takes_of rfl rfl rfl rfl) (ra_cons (re_call M_q_cell (hr.mono (by decide)) (takes_of rfl rfl rfl rfl) (ra_cons (re_var 0) (ra_cons (re_int) (ra_nil)))) (ra_cons (re_ix hr (re_rd (re_lst (ra_cons (re_int) (ra_cons (re_int) (ra_cons (re_int) (ra_cons (re_int) (ra_nil))))))) (re_rd (re_mod (re_rd (re_div (re_rd (re_call M_q_cell (hr.mono (by decide)) (takes_of rfl rfl rfl rfl) (ra_cons (re_var 0) (ra_cons (re_int) (ra_nil))))) (re_rd (re_int)))) (re_rd (re_int))))) (ra_cons (re_int) (ra_nil))))))
    (rss_cons (rs_setO 3 sc_q_texts.nd (re_lst (ra_cons (re_add (re_rd (re_add (re_rd (re_call M_q_rounds_text (hr.mono (by decide)) (takes_of rfl rfl rfl rfl) (ra_cons (re_var 1) (ra_nil)))) (re_rd (re_str)))) (re_rd (re_call M_q_rounds_text (hr.mono (by decide)) (takes_of rfl rfl rfl rfl) (ra_cons (re_var 2) (ra_nil))))) (ra_nil))))
    (rss_cons (rs_set 4 sc_q_texts.nd (re_call M_q_members (hr.mono (by decide)) (takes_of rfl rfl rfl rfl) (ra_cons (re_var 2) (ra_nil))))
    (rss_cons (rs_set 5 sc_q_texts.nd (re_call M_q_carries (hr.mono (by decide)) (takes_of rfl rfl rfl rfl) (ra_cons (re_var 1) (ra_cons (re_var 2) (ra_cons (re_var 0) (ra_cons (re_int) (ra_nil)))))))
    (rss_cons (rs_for (passes_of rfl) rfl (by exact (re_iter (re_var 4))) (by exact (gN 6 sc_q_texts.nd))
    (by exact (rss_one (rs_append 3 (re_join (re_str) (re_rd (re_lc [("_law_y", 7)] rfl sc_q_texts.nd (re_iter (re_var 4)) (blkOk_by (N := N_q_texts) (sc := defScope s_q_texts) (by decide +kernel)) (fun _ _ _ _ _ _ => by exact (gN 7 sc_q_texts.nd)) (fun _ _ _ _ _ => by exact (rts_nil)) (fun _ _ _ _ _ => by exact (re_call M_q_text (hr.mono (by decide)) (takes0) (ra_cons (re_ix hr (re_rd (re_var 5)) (re_rd (re_tup (ra_cons (re_var 6) (ra_cons (re_var 7) (ra_nil)))))) (ra_nil)))))))))))
    (rss_one (rs_frz 3 (rs_ret (re_var 3)))))))))
theorem b_q_changed (T : Txt P w K mg base) {f : Addr} (cdv : Value) (A : Around) (outer : List PySem.Env) (s : Shared) (H : Hp) (E : XK) (hr : Room 0 (A.deeper (envOfC "_law_changed" (defScope s_q_changed) s.heap.objs.size f cdv))) :
    RSs (cxOf (L2.CX P w) P w K mg base N_q_changed "_law_changed" (defScope s_q_changed) f cdv A outer s H E) (WD E) .S (defBody s_q_changed) e_q_changed :=
  rss_cons (rs_if (rt_cp (c_eq hr) (re_rd (re_blt (b_len T.n_len) (rar_cons (re_rd (re_var 0)) (rar_nil)))) (re_rd (re_int)))
    (rss_one (rs_ret (re_var 0)))
    (rss_nil))
    (rss_cons (rs_set 2 sc_q_changed.nd (re_mod (re_rd (re_var 1)) (re_rd (re_int))))
    (rss_cons (rs_set 3 sc_q_changed.nd (re_mod (re_rd (re_div (re_rd (re_var 1)) (re_rd (re_int)))) (re_rd (re_blt (b_len T.n_len) (rar_cons (re_rd (re_var 0)) (rar_nil))))))
    (rss_cons (rs_set 1 sc_q_changed.nd (re_div (re_rd (re_var 1)) (re_rd (re_int))))
    (rss_cons (rs_set 4 sc_q_changed.nd (re_ix hr (re_rd (re_var 0)) (re_rd (re_var 3))))
    (rss_cons (rs_set 5 sc_q_changed.nd (re_mod (re_rd (re_div (re_rd (re_var 1)) (re_rd (re_int)))) (re_rd (re_add (re_rd (re_blt (b_len T.n_len) (rar_cons (re_rd (re_var 4)) (rar_nil)))) (re_rd (re_int))))))
    (rss_cons (rs_set 6 sc_q_changed.nd (re_ix hr (re_rd (re_str)) (re_rd (re_mod (re_rd (re_var 1)) (re_rd (re_int))))))
    (rss_cons (rs_if (rt_cp (c_eq hr) (re_rd (re_var 2)) (re_rd (re_int)))
    (rss_one (rs_ret (re_add (re_rd (re_slice (re_rd (re_var 0)) (rp_none) (rp_some (re_rd (re_var 3))))) (re_rd (re_slice (re_rd (re_var 0)) (rp_some (re_rd (re_add (re_rd (re_var 3)) (re_rd (re_int))))) (rp_none))))))
    (rss_nil))
    (rss_cons (rs_if (rt_cp (c_eq hr) (re_rd (re_var 2)) (re_rd (re_int)))
    (rss_one (rs_ret (re_add (re_rd (re_add (re_rd (re_slice (re_rd (re_var 0)) (rp_none) (rp_some (re_rd (re_var 3))))) (re_rd (re_lst (ra_cons (re_var 4) (ra_nil)))))) (re_rd (re_slice (re_rd (re_var 0)) (rp_some (re_rd (re_var 3))) (rp_none))))))
    (rss_nil))
    (rss_cons (rs_if (rt_cp (c_eq hr) (re_rd (re_var 2)) (re_rd (re_int)))
    (rss_one (rs_ret (re_add (re_rd (re_var 0)) (re_rd (re_lst (ra_cons (re_ix hr (re_rd (re_lst (ra_cons (re_var 4) (ra_cons (re_str) (ra_nil))))) (re_rd (re_mod (re_rd (re_var 1)) (re_rd (re_int))))) (ra_nil)))))))
    (rss_nil))
    (rss_cons (rs_if (rt_cp (c_eq hr) (re_rd (re_var 2)) (re_rd (re_int)))
    (rss_one (rs_ret (re_add (re_rd (re_add (re_rd (re_slice (re_rd (re_var 0)) (rp_none) (rp_some (re_rd (re_var 3))))) (re_rd (re_rev (re_rd (re_slice (re_rd (re_var 0)) (rp_some (re_rd (re_var 3))) (rp_some (re_rd (re_add (re_rd (re_var 3)) (re_rd (re_int))))))))))) (re_rd (re_slice (re_rd (re_var 0)) (rp_some (re_rd (re_add (re_rd (re_var 3)) (re_rd (re_int))))) (rp_none))))))
    (rss_nil))
    (rss_cons (rs_set 7 sc_q_changed.nd (re_add (re_rd (re_add (re_rd (re_slice (re_rd (re_var 4)) (rp_none) (rp_some (re_rd (re_var 5))))) (re_rd (re_var 6)))) (re_rd (re_slice (re_rd (re_var 4)) (rp_some (re_rd (re_var 5))) (rp_none)))))
    (rss_cons (rs_if (rt_cp (c_eq hr) (re_rd (re_var 2)) (re_rd (re_int)))
    (rss_one (rs_set 7 sc_q_changed.nd (re_add (re_rd (re_slice (re_rd (re_var 4)) (rp_none) (rp_some (re_rd (re_var 5))))) (re_rd (re_slice (re_rd (re_var 4)) (rp_some (re_rd (re_add (re_rd (re_var 5)) (re_rd (re_int))))) (rp_none))))))
    (rss_nil))
    (rss_cons (rs_if (rt_cp (c_eq hr) (re_rd (re_var 2)) (re_rd (re_int)))
    (rss_one (rs_set 7 sc_q_changed.nd (re_add (re_rd (re_add (re_rd (re_slice (re_rd (re_var 4)) (rp_none) (rp_some (re_rd (re_var 5))))) (re_rd (re_var 6)))) (re_rd (re_slice (re_rd (re_var 4)) (rp_some (re_rd (re_add (re_rd (re_var 5)) (re_rd (re_int))))) (rp_none))))))
    (rss_nil))
    (rss_cons (rs_if (rt_cp (c_eq hr) (re_rd (re_var 2)) (re_rd (re_int)))
    (rss_one (rs_set 7 sc_q_changed.nd (re_join (re_str) (re_rd (re_slice (re_rd (re_split (re_var 4) (re_str))) (rp_some (re_rd (re_int))) (rp_none))))))
    (rss_nil))
    (rss_cons (rs_if (rt_cp (c_eq hr) (re_rd (re_var 2)) (re_rd (re_int)))
    (rss_one (rs_set 7 sc_q_changed.nd (re_add (re_rd (re_add (re_rd (re_var 4)) (re_rd (re_str)))) (re_rd (re_ix hr (re_rd (re_split (re_var 4) (re_str))) (re_rd (re_int)))))))
    (rss_nil))
    (rss_one (rs_ret (re_add (re_rd (re_add (re_rd (re_slice (re_rd (re_var 0)) (rp_none) (rp_some (re_rd (re_var 3))))) (re_rd (re_lst (ra_cons (re_var 7) (ra_nil)))))) (re_rd (re_slice (re_rd (re_var 0)) (rp_some (re_rd (re_add (re_rd (re_var 3)) (re_rd (re_int))))) (rp_none)))))))))))))))))))))
theorem b_Table_carries (T : Txt P w K mg base) {f : Addr} (cdv : Value) (A : Around) (outer : List PySem.Env) (s : Shared) (H : Hp) (E : XK) (hr : Room 0 (A.deeper (envOfC "Table.carries" (defScope s_Table_carries) s.heap.objs.size f cdv))) :
    RSs (cxOf (L2.CX P w) P w K mg base N_Table_carries "Table.carries" (defScope s_Table_carries) f cdv A outer s H E) (WD E) .S (defBody s_Table_carries) e_Table_carries :=
  rss_one (rs_ret (re_share (re_blt (b_dict hr T.n_dict) (rar_cons (re_rd (re_fld T.f_kept (re_var 0))) (rar_nil)))))
theorem b_is_whole (T : Txt P w K mg base) {f : Addr} (cdv : Value) (A : Around) (outer : List PySem.Env) (s : Shared) (H : Hp) (E : XK) (hr : Room 0 (A.deeper (envOfC "is_whole" (defScope s_is_whole) s.heap.objs.size f cdv))) :
    RSs (cxOf (L2.CX P w) P w K mg base N_is_whole "is_whole" (defScope s_is_whole) f cdv A outer s H E) (WD E) .S (defBody s_is_whole) e_is_whole :=
  rss_one (rs_ret (re_and (re_blt (b_is T.isM T.n_isinstance) (rar_cons (re_rd (re_var 0)) (rar_cons (re_rd (re_ty T.n_int boot_ty_int)) (rar_nil)))) (re_one (re_not (re_blt (b_is T.isM T.n_isinstance) (rar_cons (re_rd (re_var 0)) (rar_cons (re_rd (re_ty T.n_bool boot_ty_bool)) (rar_nil))))))))
theorem b_are_rounds (T : Txt P w K mg base) (M_is_whole : FnM P w K mg base 1 "is_whole" .S d_is_whole) {f : Addr} (cdv : Value) (A : Around) (outer : List PySem.Env) (s : Shared) (H : Hp) (E : XK) (hr : Room 1 (A.deeper (envOfC "are_rounds" (defScope s_are_rounds) s.heap.objs.size f cdv))) :
    RSs (cxOf (L2.CX P w) P w K mg base N_are_rounds "are_rounds" (defScope s_are_rounds) f cdv A outer s H E) (WD E) .S (defBody s_are_rounds) e_are_rounds :=
  rss_cons (rs_if (rt_pw (rw_or (rt_not (rt_val (re_blt (b_is T.isM T.n_isinstance) (rar_cons (re_rd (re_var 0)) (rar_cons (re_rd (re_tup (ra_cons (re_ty T.n_list boot_ty_list) (ra_cons (re_ty T.n_tuple boot_ty_tuple) (ra_nil))))) (rar_nil)))))) (rw_or1 (rt_cp (c_gt) (re_rd (re_blt (b_len T.n_len) (rar_cons (re_rd (re_var 0)) (rar_nil)))) (re_rd (re_gI T.g_MOST_ROUNDS))))))
    (rss_one (rs_ret (re_bl)))
    (rss_nil))
    (rss_cons (rs_set 1 sc_are_rounds.nd (re_int))
    (rss_cons (rs_for (passes_of rfl) rfl (by exact (re_iter (re_var 0))) (by exact (gN 2 sc_are_rounds.nd))
    (by exact (rss_cons (rs_if (rt_pw (rw_or (rt_not (rt_val (re_call M_is_whole (hr.mono (by decide)) (takes_of rfl rfl rfl rfl) (ra_cons (re_var 2) (ra_nil))))) (rw_or (rt_cp (c_lt) (re_rd (re_var 2)) (re_rd (re_int))) (rw_or1 (rt_cp (c_gt) (re_rd (re_var 2)) (re_rd (re_gI T.g_MOST_ELEMENTS)))))))
    (rss_one (rs_ret (re_bl)))
    (rss_nil))
    (rss_one (rs_set 1 sc_are_rounds.nd (re_mul (re_rd (re_var 1)) (re_rd (re_var 2))))))))
    (rss_one (rs_ret (re_cp (c_le) (re_rd (re_var 1)) (re_rd (re_gI T.g_MOST_ELEMENTS)))))))
theorem b_Rounds_init (T : Txt P w K mg base) (M_are_rounds : FnM P w K mg base 2 "are_rounds" .S d_are_rounds) {f : Addr} (cdv : Value) (A : Around) (outer : List PySem.Env) (s : Shared) (H : Hp) (E : XK) (x : Addr) (hr : Room 2 (A.deeper (envOfC "Rounds.__init__" (defScope s_Rounds_init) s.heap.objs.size f cdv))) :
    RSs (cxOf (L2.CX P w) P w K mg base N_Rounds_init "Rounds.__init__" (defScope s_Rounds_init) f cdv A outer s H E) (WI x E) .S (defBody s_Rounds_init) e_Rounds_init :=
  rss_cons (rs_if (rt_not (rt_val (re_call M_are_rounds (hr.mono (by decide)) (takes_of rfl rfl rfl rfl) (ra_cons (re_var 1) (ra_nil)))))
    (rss_one (rs_raise0 T.e_NoRounds rfl (takes_of rfl rfl rfl rfl)))
    (rss_nil))
    (rss_one (rs_fldS 0 0 T.cl_Rounds_rounds (re_blt (b_tuple T.n_tuple) (rar_cons (re_rd (re_var 1)) (rar_nil)))))
theorem b_number_read (T : Txt P w K mg base) {f : Addr} (cdv : Value) (A : Around) (outer : List PySem.Env) (s : Shared) (H : Hp) (E : XK) (hr : Room 0 (A.deeper (envOfC "number_read" (defScope s_number_read) s.heap.objs.size f cdv))) :
    RSs (cxOf (L2.CX P w) P w K mg base N_number_read "number_read" (defScope s_number_read) f cdv A outer s H E) (WD E) .S (defBody s_number_read) e_number_read :=
  rss_cons (rs_if (rt_pw (rw_or (rt_not (rt_chain (c_le) (c_le) (re_rd (re_int)) (re_rd (re_blt (b_len T.n_len) (rar_cons (re_rd (re_var 0)) (rar_nil)))) (re_rd (re_gI T.g_MOST_FIGURES)))) (rw_or1 (rt_pw (rw_and (rt_cp (c_gt) (re_rd (re_blt (b_len T.n_len) (rar_cons (re_rd (re_var 0)) (rar_nil)))) (re_rd (re_int))) (rw_and1 (rt_cp (c_eq hr) (re_rd (re_ix hr (re_rd (re_var 0)) (re_rd (re_int)))) (re_rd (re_str)))))))))
    (rss_one (rs_ret (re_non)))
    (rss_nil))
    (rss_cons (rs_for (passes_of rfl) rfl (by exact (re_iter (re_var 0))) (by exact (gN 1 sc_number_read.nd))
    (by exact (rss_one (rs_if (rt_cp (c_notInS1) (re_rd (re_var 1)) (re_rd (re_gS T.g_FIGURES)))
    (rss_one (rs_ret (re_non)))
    (rss_nil)))))
    (rss_one (rs_ret (re_blt (b_int T.n_int) (rar_cons (re_rd (re_var 0)) (rar_nil))))))
theorem b_rounds_or_none (T : Txt P w K mg base) (MK_Rounds : MkM P w K mg base 3 0 d_Rounds_init) (M_number_read : FnM P w K mg base 1 "number_read" .S d_number_read) {f : Addr} (cdv : Value) (A : Around) (outer : List PySem.Env) (s : Shared) (H : Hp) (E : XK) (hr : Room 4 (A.deeper (envOfC "rounds_or_none" (defScope s_rounds_or_none) s.heap.objs.size f cdv))) :
    RSs (cxOf (L2.CX P w) P w K mg base N_rounds_or_none "rounds_or_none" (defScope s_rounds_or_none) f cdv A outer s H E) (WD E) .S (defBody s_rounds_or_none) e_rounds_or_none :=
  rss_cons (rs_if (rt_cp (c_eq hr) (re_rd (re_var 0)) (re_rd (re_str)))
    (rss_one (rs_ret (re_make MK_Rounds (hr.mono (by decide)) (takes_of rfl rfl rfl rfl) (ra_cons (re_share (re_lst (ra_nil))) (ra_nil)))))
    (rss_nil))
    (rss_cons (rs_set 1 sc_rounds_or_none.nd (re_non))
    (rss_cons (rs_try T.ctM sc_rounds_or_none.nd (takes_of rfl rfl rfl rfl) (fun _ _ _ tk1 po1 => by exact (rss_one (rs_set 1 sc_rounds_or_none.nd (re_make MK_Rounds (hr.mono (by decide)) (tk1) (ra_cons (re_share (re_lc [("word", 2)] rfl sc_rounds_or_none.nd (re_iter (re_share (re_split (re_var 0) (re_str)))) (blkOk_by (N := N_rounds_or_none) (sc := defScope s_rounds_or_none) (by decide +kernel)) (fun _ _ _ _ _ _ => by exact (gN 2 sc_rounds_or_none.nd)) (fun _ _ _ _ _ => by exact (rts_nil)) (fun _ _ _ _ _ => by exact (re_call M_number_read (hr.mono (by decide)) (takes0) (ra_cons (re_var 2) (ra_nil)))))) (ra_nil)))))) (by exact (ClsD.one (names_own (u := 11) T.c_NoRounds) rfl (fun _ _ => by exact (rss_one (rs_set 1 sc_rounds_or_none.nd (re_non)))) (by exact (ClsD.nil)))))
    (rss_one (rs_ret (re_var 1)))))
theorem b_groups_read (T : Txt P w K mg base) (M_rounds_or_none : FnM P w K mg base 5 "rounds_or_none" .S d_rounds_or_none) {f : Addr} (cdv : Value) (A : Around) (outer : List PySem.Env) (s : Shared) (H : Hp) (E : XK) (hr : Room 5 (A.deeper (envOfC "groups_read" (defScope s_groups_read) s.heap.objs.size f cdv))) :
    RSs (cxOf (L2.CX P w) P w K mg base N_groups_read "groups_read" (defScope s_groups_read) f cdv A outer s H E) (WD E) .S (defBody s_groups_read) e_groups_read :=
  rss_cons (rs_if (rt_cp (c_eq hr) (re_rd (re_blt (b_len T.n_len) (rar_cons (re_rd (re_var 0)) (rar_nil)))) (re_rd (re_int)))
    (rss_one (rs_raise T.e_NoText rfl (takes_of rfl rfl rfl rfl) (hr.mono (by decide)) (ra_cons (re_int) (ra_nil))))
    (rss_nil))
    (rss_cons (rs_shareLc 1 (rs_setLc 1 [("word", 2)] rfl sc_groups_read.nd (re_iter (re_share (re_split (re_ix hr (re_rd (re_var 0)) (re_rd (re_int))) (re_str)))) (blkOk_by (N := N_groups_read) (sc := defScope s_groups_read) (by decide +kernel)) (fun _ _ _ _ _ _ => by exact (gN 2 sc_groups_read.nd)) (fun _ _ _ _ _ => by exact (rts_nil)) (fun _ _ _ _ _ => by exact (re_call M_rounds_or_none (hr.mono (by decide)) (takes0) (ra_cons (re_var 2) (ra_nil))))))
    (rss_cons (rs_if (rt_pw (rw_or (rt_cp (c_ne hr) (re_rd (re_blt (b_len T.n_len) (rar_cons (re_rd (re_var 1)) (rar_nil)))) (re_rd (re_int))) (rw_or1 (rt_cp (c_inNone T.q_Rounds hr) (re_rd (re_non)) (re_rd (re_var 1))))))
    (rss_one (rs_raise T.e_NoText rfl (takes_of rfl rfl rfl rfl) (hr.mono (by decide)) (ra_cons (re_int) (ra_nil))))
    (rss_nil))
    (rss_one (rs_ret (re_var 1)))))
theorem b_Rounds_members (T : Txt P w K mg base) {f : Addr} (cdv : Value) (A : Around) (outer : List PySem.Env) (s : Shared) (H : Hp) (E : XK) (hr : Room 0 (A.deeper (envOfC "Rounds.members" (defScope s_Rounds_members) s.heap.objs.size f cdv))) :
    RSs (cxOf (L2.CX P w) P w K mg base N_Rounds_members "Rounds.members" (defScope s_Rounds_members) f cdv A outer s H E) (WD E) .S (defBody s_Rounds_members) e_Rounds_members :=
  rss_cons (rs_set 1 sc_Rounds_members.nd (re_share (re_lst (ra_cons (re_tup (ra_nil)) (ra_nil)))))
    (rss_cons (rs_for (passes_of rfl) rfl (by exact (re_iter (re_fld T.f_rounds (re_var 0)))) (by exact (gN 2 sc_Rounds_members.nd))
    (by exact (rss_cons (rs_setO 3 sc_Rounds_members.nd (re_lst (ra_nil)))
    (rss_cons (rs_for (passes_of rfl) rfl (by exact (re_iter (re_var 1))) (by exact (gN 4 sc_Rounds_members.nd))
    (by exact (rss_one (rs_extend 3 (re_share (re_lc [("here", 5)] rfl sc_Rounds_members.nd (ri_range1 (b := true) T.n_range (rar_cons (re_rd (re_var 2)) (rar_nil))) (blkOk_by (N := N_Rounds_members) (sc := defScope s_Rounds_members) (by decide +kernel)) (fun _ _ _ _ _ _ => by exact (gN 5 sc_Rounds_members.nd)) (fun _ _ _ _ _ => by exact (rts_nil)) (fun _ _ _ _ _ => by exact (re_add (re_rd (re_var 4)) (re_rd (re_tup (ra_cons (re_var 5) (ra_nil))))))))))))
    (rss_one (rs_frz 3 (rs_set 1 sc_Rounds_members.nd (re_var 3))))))))
    (rss_one (rs_ret (re_var 1))))
theorem b_Group_size (T : Txt P w K mg base) (MT_members : ∀ c g, mt_members c = some g → MtM P w K mg base 1 "members" c .S g) {f : Addr} (cdv : Value) (A : Around) (outer : List PySem.Env) (s : Shared) (H : Hp) (E : XK) (hr : Room 1 (A.deeper (envOfC "Group.size" (defScope s_Group_size) s.heap.objs.size f cdv))) :
    RSs (cxOf (L2.CX P w) P w K mg base N_Group_size "Group.size" (defScope s_Group_size) f cdv A outer s H E) (WD E) .S (defBody s_Group_size) e_Group_size :=
  rss_one (rs_ret (re_blt (b_len T.n_len) (rar_cons (re_rd (re_meth0 MT_members (hr.mono (by decide)) (takes_of rfl rfl rfl rfl) (re_var 0))) (rar_nil))))
theorem b_Rounds_is_even (T : Txt P w K mg base) {f : Addr} (cdv : Value) (A : Around) (outer : List PySem.Env) (s : Shared) (H : Hp) (E : XK) (hr : Room 0 (A.deeper (envOfC "Rounds.is_even" (defScope s_Rounds_is_even) s.heap.objs.size f cdv))) :
    RSs (cxOf (L2.CX P w) P w K mg base N_Rounds_is_even "Rounds.is_even" (defScope s_Rounds_is_even) f cdv A outer s H E) (WD E) .S (defBody s_Rounds_is_even) e_Rounds_is_even :=
  rss_one (rs_ret (re_bl))
theorem b_look_at_groups (T : Txt P w K mg base) (MT_size : ∀ c g, mt_size c = some g → MtM P w K mg base 2 "size" c .S g) (MT_is_even : ∀ c g, mt_is_even c = some g → MtM P w K mg base 1 "is_even" c .S g) {f : Addr} (cdv : Value) (A : Around) (outer : List PySem.Env) (s : Shared) (H : Hp) (E : XK) (hr : Room 2 (A.deeper (envOfC "look_at_groups" (defScope s_look_at_groups) s.heap.objs.size f cdv))) :
    RSs (cxOf (L2.CX P w) P w K mg base N_look_at_groups "look_at_groups" (defScope s_look_at_groups) f cdv A outer s H E) (WD E) .S (defBody s_look_at_groups) e_look_at_groups :=
  rss_cons (rs_if (rt_pw (rw_or (rt_cp (c_gt) (re_rd (re_meth0 MT_size (hr.mono (by decide)) (takes_of rfl rfl rfl rfl) (re_var 0))) (re_rd (re_gI T.g_MOST_LOWER))) (rw_or1 (rt_not (rt_val (re_meth0 MT_is_even (hr.mono (by decide)) (takes_of rfl rfl rfl rfl) (re_var 0)))))))
    (rss_one (rs_raise0 T.e_NoLower rfl (takes_of rfl rfl rfl rfl)))
    (rss_nil))
    (rss_one (rs_if (rt_pw (rw_or (rt_not (rt_val (re_blt (b_is T.isM T.n_isinstance) (rar_cons (re_rd (re_var 1)) (rar_cons (re_rd (re_cls (c := 0) T.c_Rounds)) (rar_nil)))))) (rw_or1 (rt_cp (c_gt) (re_rd (re_meth0 MT_size (hr.mono (by decide)) (takes_of rfl rfl rfl rfl) (re_var 1))) (re_rd (re_gI T.g_MOST_UPPER))))))
    (rss_one (rs_raise0 T.e_NoUpper rfl (takes_of rfl rfl rfl rfl)))
    (rss_nil)))
theorem b_Rounds_has (T : Txt P w K mg base) (M_is_whole : FnM P w K mg base 1 "is_whole" .S d_is_whole) {f : Addr} (cdv : Value) (A : Around) (outer : List PySem.Env) (s : Shared) (H : Hp) (E : XK) (hr : Room 1 (A.deeper (envOfC "Rounds.has" (defScope s_Rounds_has) s.heap.objs.size f cdv))) :
    RSs (cxOf (L2.CX P w) P w K mg base N_Rounds_has "Rounds.has" (defScope s_Rounds_has) f cdv A outer s H E) (WD E) .S (defBody s_Rounds_has) e_Rounds_has :=
  rss_cons (rs_if (rt_pw (rw_or (rt_not (rt_val (re_blt (b_is T.isM T.n_isinstance) (rar_cons (re_rd (re_var 1)) (rar_cons (re_rd (re_ty T.n_tuple boot_ty_tuple)) (rar_nil)))))) (rw_or1 (rt_cp (c_ne hr) (re_rd (re_blt (b_len T.n_len) (rar_cons (re_rd (re_var 1)) (rar_nil)))) (re_rd (re_blt (b_len T.n_len) (rar_cons (re_rd (re_fld T.f_rounds (re_var 0))) (rar_nil))))))))
    (rss_one (rs_ret (re_bl)))
    (rss_nil))
    (rss_cons (rs_for (passes_of rfl) rfl (by exact (ri_zip2 T.n_zip (ra_cons (re_var 1) (ra_cons (re_fld T.f_rounds (re_var 0)) (ra_nil))))) (by exact (gT 2 rfl (gsc (gN 2 sc_Rounds_has.nd) (gsc (gN 3 sc_Rounds_has.nd) (gs0)))))
    (by exact (rss_one (rs_if (rt_pw (rw_or (rt_not (rt_val (re_call M_is_whole (hr.mono (by decide)) (takes_of rfl rfl rfl rfl) (ra_cons (re_var 2) (ra_nil))))) (rw_or (rt_cp (c_lt) (re_rd (re_var 2)) (re_rd (re_int))) (rw_or1 (rt_cp (c_ge) (re_rd (re_var 2)) (re_rd (re_var 3)))))))
    (rss_one (rs_ret (re_bl)))
    (rss_nil)))))
    (rss_one (rs_ret (re_bl))))
theorem b_element_or_none (T : Txt P w K mg base) (M_number_read : FnM P w K mg base 1 "number_read" .S d_number_read) (MT_has : ∀ c g, mt_has c = some g → MtM P w K mg base 2 "has" c .S g) {f : Addr} (cdv : Value) (A : Around) (outer : List PySem.Env) (s : Shared) (H : Hp) (E : XK) (hr : Room 2 (A.deeper (envOfC "element_or_none" (defScope s_element_or_none) s.heap.objs.size f cdv))) :
    RSs (cxOf (L2.CX P w) P w K mg base N_element_or_none "element_or_none" (defScope s_element_or_none) f cdv A outer s H E) (WD E) .S (defBody s_element_or_none) e_element_or_none :=
  rss_cons (rs_set 2 sc_element_or_none.nd (re_blt (b_tuple T.n_tuple) (rar_cons (re_rd (re_lc [("word", 3)] rfl sc_element_or_none.nd (re_iter (re_share (re_split (re_var 1) (re_str)))) (blkOk_by (N := N_element_or_none) (sc := defScope s_element_or_none) (by decide +kernel)) (fun _ _ _ _ _ _ => by exact (gN 3 sc_element_or_none.nd)) (fun _ _ _ _ _ => by exact (rts_nil)) (fun _ _ _ _ _ => by exact (re_call M_number_read (hr.mono (by decide)) (takes0) (ra_cons (re_var 3) (ra_nil)))))) (rar_nil))))
    (rss_cons (rs_if (rt_cp (c_eq hr) (re_rd (re_var 1)) (re_rd (re_str)))
    (rss_one (rs_set 2 sc_element_or_none.nd (re_tup (ra_nil))))
    (rss_nil))
    (rss_cons (rs_if (rt_val (re_meth MT_has (hr.mono (by decide)) (takes_of rfl rfl rfl rfl) (re_var 0) (ra_cons (re_var 2) (ra_nil))))
    (rss_one (rs_ret (re_var 2)))
    (rss_nil))
    (rss_one (rs_ret (re_non)))))
theorem b_row_read (T : Txt P w K mg base) (M_element_or_none : FnM P w K mg base 3 "element_or_none" .S d_element_or_none) {f : Addr} (cdv : Value) (A : Around) (outer : List PySem.Env) (s : Shared) (H : Hp) (E : XK) (hr : Room 3 (A.deeper (envOfC "row_read" (defScope s_row_read) s.heap.objs.size f cdv))) :
    RSs (cxOf (L2.CX P w) P w K mg base N_row_read "row_read" (defScope s_row_read) f cdv A outer s H E) (WD E) .S (defBody s_row_read) e_row_read :=
  rss_cons (rs_if (rt_cp (c_ge) (re_rd (re_var 2)) (re_rd (re_blt (b_len T.n_len) (rar_cons (re_rd (re_var 1)) (rar_nil)))))
    (rss_one (rs_raise T.e_NoText rfl (takes_of rfl rfl rfl rfl) (hr.mono (by decide)) (ra_cons (re_var 2) (ra_nil))))
    (rss_nil))
    (rss_cons (rs_shareLc 4 (rs_setLc 4 [("word", 5)] rfl sc_row_read.nd (re_iter (re_share (re_split (re_ix hr (re_rd (re_var 1)) (re_rd (re_var 2))) (re_str)))) (blkOk_by (N := N_row_read) (sc := defScope s_row_read) (by decide +kernel)) (fun _ _ _ _ _ _ => by exact (gN 5 sc_row_read.nd)) (fun _ _ _ _ _ => by exact (rts_nil)) (fun _ _ _ _ _ => by exact (re_call M_element_or_none (hr.mono (by decide)) (takes0) (ra_cons (re_var 0) (ra_cons (re_var 5) (ra_nil)))))))
    (rss_cons (rs_if (rt_pw (rw_or (rt_cp (c_ne hr) (re_rd (re_blt (b_len T.n_len) (rar_cons (re_rd (re_var 4)) (rar_nil)))) (re_rd (re_var 3))) (rw_or1 (rt_cp (c_inNone T.q_Rounds hr) (re_rd (re_non)) (re_rd (re_var 4))))))
    (rss_one (rs_raise T.e_NoText rfl (takes_of rfl rfl rfl rfl) (hr.mono (by decide)) (ra_cons (re_var 2) (ra_nil))))
    (rss_nil))
    (rss_one (rs_ret (re_var 4)))))
theorem b_Table_init (T : Txt P w K mg base) (M_look_at_groups : FnM P w K mg base 3 "look_at_groups" .S d_look_at_groups) (MT_members : ∀ c g, mt_members c = some g → MtM P w K mg base 1 "members" c .S g) (MT_has : ∀ c g, mt_has c = some g → MtM P w K mg base 2 "has" c .S g) {f : Addr} (cdv : Value) (A : Around) (outer : List PySem.Env) (s : Shared) (H : Hp) (E : XK) (x : Addr) (hr : Room 3 (A.deeper (envOfC "Table.__init__" (defScope s_Table_init) s.heap.objs.size f cdv))) :
    RSs (cxOf (L2.CX P w) P w K mg base N_Table_init "Table.__init__" (defScope s_Table_init) f cdv A outer s H E) (WI x E) .S (defBody s_Table_init) e_Table_init :=
  rss_cons (rs_expr (re_call M_look_at_groups (hr.mono (by decide)) (takes_of rfl rfl rfl rfl) (ra_cons (re_var 1) (ra_cons (re_var 2) (ra_nil)))))
    (rss_cons (rs_fldS 0 2 T.cl_Table_lower (re_var 1))
    (rss_cons (rs_fldS 0 2 T.cl_Table_upper (re_var 2))
    (rss_cons (rs_fldO 0 2 T.cl_Table_kept (re_dic0))
    (rss_cons (rs_set 4 sc_Table_init.nd (re_meth0 MT_members (hr.mono (by decide)) (takes_of rfl rfl rfl rfl) (re_var 2)))
    (rss_one (rs_for (passes_of rfl) rfl (by exact (re_iter (re_var 4))) (by exact (gN 5 sc_Table_init.nd))
    (by exact (rss_one (rs_for (passes_of rfl) rfl (by exact (re_iter (re_var 4))) (by exact (gN 6 sc_Table_init.nd))
    (by exact (rss_cons (rs_if (rt_pw (rw_or (rt_cp (c_notIn hr) (re_rd (re_tup (ra_cons (re_var 5) (ra_cons (re_var 6) (ra_nil))))) (re_rd (re_var 3))) (rw_or1 (rt_not (rt_val (re_meth MT_has (hr.mono (by decide)) (takes_of rfl rfl rfl rfl) (re_var 1) (ra_cons (re_ix hr (re_rd (re_var 3)) (re_rd (re_tup (ra_cons (re_var 5) (ra_cons (re_var 6) (ra_nil)))))) (ra_nil))))))))
    (rss_one (rs_raise T.e_NoCarry rfl (takes_of rfl rfl rfl rfl) (hr.mono (by decide)) (ra_cons (re_var 5) (ra_cons (re_var 6) (ra_nil)))))
    (rss_nil))
    (rss_one (rs_fldItem 0 2 2 T.cl_Table_kept hr (re_ix hr (re_rd (re_var 3)) (re_rd (re_tup (ra_cons (re_var 5) (ra_cons (re_var 6) (ra_nil)))))) (re_rd (re_tup (ra_cons (re_var 5) (ra_cons (re_var 6) (ra_nil))))))))))))))))))
theorem b_read_table (T : Txt P w K mg base) (M_groups_read : FnM P w K mg base 6 "groups_read" .S d_groups_read) (M_look_at_groups : FnM P w K mg base 3 "look_at_groups" .S d_look_at_groups) (MT_members : ∀ c g, mt_members c = some g → MtM P w K mg base 1 "members" c .S g) (M_row_read : FnM P w K mg base 4 "row_read" .S d_row_read) (MK_Table : MkM P w K mg base 4 2 d_Table_init) {f : Addr} (cdv : Value) (A : Around) (outer : List PySem.Env) (s : Shared) (H : Hp) (E : XK) (hr : Room 6 (A.deeper (envOfC "read_table" (defScope s_read_table) s.heap.objs.size f cdv))) :
    RSs (cxOf (L2.CX P w) P w K mg base N_read_table "read_table" (defScope s_read_table) f cdv A outer s H E) (WD E) .S (defBody s_read_table) e_read_table :=
  rss_cons (rs_asg (re_call M_groups_read (hr.mono (by decide)) (takes_of rfl rfl rfl rfl) (ra_cons (re_var 0) (ra_nil))) (gL 2 rfl (gsc (gN 1 sc_read_table.nd) (gsc (gN 2 sc_read_table.nd) (gs0)))))
    (rss_cons (rs_expr (re_call M_look_at_groups (hr.mono (by decide)) (takes_of rfl rfl rfl rfl) (ra_cons (re_var 1) (ra_cons (re_var 2) (ra_nil)))))
    (rss_cons (rs_set 3 sc_read_table.nd (re_meth0 MT_members (hr.mono (by decide)) (takes_of rfl rfl rfl rfl) (re_var 2)))
    (rss_cons (rs_setO 4 sc_read_table.nd (re_dic0))
    (rss_cons (rs_for (passes_of rfl) rfl (by exact (ri_enumS T.n_enumerate (ra_cons (re_var 3) (ra_nil)))) (by exact (gT 2 rfl (gsc (gN 5 sc_read_table.nd) (gsc (gN 6 sc_read_table.nd) (gs0)))))
    (by exact (rss_one (rs_for (passes_of rfl) rfl (by exact (ri_zip2 T.n_zip (ra_cons (re_var 3) (ra_cons (re_call M_row_read (hr.mono (by decide)) (takes_of rfl rfl rfl rfl) (ra_cons (re_var 1) (ra_cons (re_var 0) (ra_cons (re_add (re_rd (re_var 5)) (re_rd (re_int))) (ra_cons (re_blt (b_len T.n_len) (rar_cons (re_rd (re_var 3)) (rar_nil))) (ra_nil)))))) (ra_nil))))) (by exact (gT 2 rfl (gsc (gN 7 sc_read_table.nd) (gsc (gN 8 sc_read_table.nd) (gs0)))))
    (by exact (rss_one (rs_setItem 4 hr (re_var 8) (re_rd (re_tup (ra_cons (re_var 6) (ra_cons (re_var 7) (ra_nil))))))))))))
    (rss_cons (rs_if (rt_cp (c_gt) (re_rd (re_blt (b_len T.n_len) (rar_cons (re_rd (re_var 0)) (rar_nil)))) (re_rd (re_add (re_rd (re_blt (b_len T.n_len) (rar_cons (re_rd (re_var 3)) (rar_nil)))) (re_rd (re_int)))))
    (rss_one (rs_raise T.e_NoText rfl (takes_of rfl rfl rfl rfl) (hr.mono (by decide)) (ra_cons (re_add (re_rd (re_blt (b_len T.n_len) (rar_cons (re_rd (re_var 3)) (rar_nil)))) (re_rd (re_int))) (ra_nil))))
    (rss_nil))
    (rss_one (rs_frz 4 (rs_ret (re_make MK_Table (hr.mono (by decide)) (takes_of rfl rfl rfl rfl) (ra_cons (re_var 1) (ra_cons (re_var 2) (ra_cons (re_var 4) (ra_nil)))))))))))))
theorem b_q_told (T : Txt P w K mg base) (MT_carries : ∀ c g, mt_carries c = some g → MtM P w K mg base 1 "carries" c .S g) (M_read_table : FnM P w K mg base 7 "read_table" .S d_read_table) {f : Addr} (cdv : Value) (A : Around) (outer : List PySem.Env) (s : Shared) (H : Hp) (E : XK) (hr : Room 7 (A.deeper (envOfC "_law_told" (defScope s_q_told) s.heap.objs.size f cdv))) :
    RSs (cxOf (L2.CX P w) P w K mg base N_q_told "_law_told" (defScope s_q_told) f cdv A outer s H E) (WD E) .S (defBody s_q_told) e_q_told :=
  rss_cons (rs_set 1 sc_q_told.nd (re_non))
    (rss_cons (rs_try T.ctM sc_q_told.nd (takes_of rfl rfl rfl rfl) (fun _ _ _ tk1 po1 => by exact (rss_one (rs_set 1 sc_q_told.nd (re_tup (ra_cons (re_str) (ra_cons (re_meth0 MT_carries (hr.mono (by decide)) (tk1) (re_call M_read_table (hr.mono (by decide)) (tk1) (ra_cons (re_var 0) (ra_nil)))) (ra_nil))))))) (by exact (ClsD.as (i := 2) (names_own (u := 22) T.c_NoText) rfl rfl rfl (by first | exact fun _ _ h => h | exact jset (by decide)) (fun _ _ => by exact (rss_cons (rs_set 1 sc_q_told.nd (re_tup (ra_cons (re_str) (ra_cons (re_exf T.x_at (re_var 2)) (ra_nil)))))
    (rss_one (rs_if (rt_pw (rw_or (rt_val (re_blt (b_is T.isM T.n_isinstance) (rar_cons (re_rd (re_exf T.x_at (re_var 2))) (rar_cons (re_rd (re_ty T.n_bool boot_ty_bool)) (rar_nil))))) (rw_or (rt_not (rt_val (re_blt (b_is T.isM T.n_isinstance) (rar_cons (re_rd (re_var 2)) (rar_cons (re_rd (re_cls (c := 10) T.c_CarryError)) (rar_nil)))))) (rw_or1 (rt_not (rt_val (re_blt (b_is T.isM T.n_isinstance) (rar_cons (re_rd (re_var 2)) (rar_cons (re_rd (re_ty T.n_ValueError boot_ty_ValueError)) (rar_nil))))))))))
    (rss_one (rs_set 1 sc_q_told.nd (re_non)))
    (rss_nil))))) (by exact (ClsD.one (names_own (u := 13) T.c_NoLower) rfl (fun _ _ => by exact (rss_one (rs_set 1 sc_q_told.nd (re_tup (ra_cons (re_str) (ra_nil)))))) (by exact (ClsD.one (names_own (u := 14) T.c_NoUpper) rfl (fun _ _ => by exact (rss_one (rs_set 1 sc_q_told.nd (re_tup (ra_cons (re_str) (ra_nil)))))) (by exact (ClsD.nil)))))))))
    (rss_one (rs_ret (re_var 1))))
theorem b_q_number_read (T : Txt P w K mg base) {f : Addr} (cdv : Value) (A : Around) (outer : List PySem.Env) (s : Shared) (H : Hp) (E : XK) (hr : Room 0 (A.deeper (envOfC "_law_number_read" (defScope s_q_number_read) s.heap.objs.size f cdv))) :
    RSs (cxOf (L2.CX P w) P w K mg base N_q_number_read "_law_number_read" (defScope s_q_number_read) f cdv A outer s H E) (WD E) .S (defBody s_q_number_read) e_q_number_read :=
  rss_cons (rs_if (rt_pw (rw_or (rt_cp (c_lt) (re_rd (re_blt (b_len T.n_len) (rar_cons (re_rd (re_var 0)) (rar_nil)))) (re_rd (re_int))) (rw_or (rt_cp (c_gt) (re_rd (re_blt (b_len T.n_len) (rar_cons (re_rd (re_var 0)) (rar_nil)))) (re_rd (re_int))) (rw_or1 (rt_pw (rw_and (rt_cp (c_gt) (re_rd (re_blt (b_len T.n_len) (rar_cons (re_rd (re_var 0)) (rar_nil)))) (re_rd (re_int))) (rw_and1 (rt_cp (c_eq hr) (re_rd (re_ix hr (re_rd (re_var 0)) (re_rd (re_int)))) (re_rd (re_str))))))))))
    (rss_one (rs_ret (re_non)))
    (rss_nil))
    (rss_cons (rs_if (rt_not (rt_val (re_blt (b_allT rfl T.n_all) (rar_cons (re_rd (re_lc [("_law_sign", 1)] rfl sc_q_number_read.nd (re_iter (re_var 0)) (blkOk_by (N := N_q_number_read) (sc := defScope s_q_number_read) (by decide +kernel)) (fun _ _ _ _ _ _ => by exact (gN 1 sc_q_number_read.nd)) (fun _ _ _ _ _ => by exact (rts_nil)) (fun _ _ _ _ _ => by exact (re_cp (c_inS1) (re_rd (re_var 1)) (re_rd (re_str)))))) (rar_nil)))))
    (rss_one (rs_ret (re_non)))
    (rss_nil))
    (rss_one (rs_ret (re_blt (b_int T.n_int) (rar_cons (re_rd (re_var 0)) (rar_nil))))))
theorem b_q_rounds_read (T : Txt P w K mg base) (M_q_number_read : FnM P w K mg base 1 "_law_number_read" .S d_q_number_read) {f : Addr} (cdv : Value) (A : Around) (outer : List PySem.Env) (s : Shared) (H : Hp) (E : XK) (hr : Room 1 (A.deeper (envOfC "_law_rounds_read" (defScope s_q_rounds_read) s.heap.objs.size f cdv))) :
    RSs (cxOf (L2.CX P w) P w K mg base N_q_rounds_read "_law_rounds_read" (defScope s_q_rounds_read) f cdv A outer s H E) (WD E) .S (defBody s_q_rounds_read) e_q_rounds_read :=
  rss_cons (rs_if (rt_cp (c_eq hr) (re_rd (re_var 0)) (re_rd (re_str)))
    (rss_one (rs_ret (re_tup (ra_nil))))
    (rss_nil))
    (rss_cons (rs_set 1 sc_q_rounds_read.nd (re_blt (b_tuple T.n_tuple) (rar_cons (re_rd (re_lc [("_law_word", 4)] rfl sc_q_rounds_read.nd (re_iter (re_share (re_split (re_var 0) (re_str)))) (blkOk_by (N := N_q_rounds_read) (sc := defScope s_q_rounds_read) (by decide +kernel)) (fun _ _ _ _ _ _ => by exact (gN 4 sc_q_rounds_read.nd)) (fun _ _ _ _ _ => by exact (rts_nil)) (fun _ _ _ _ _ => by exact (re_call M_q_number_read (hr.mono (by decide)) (takes0) (ra_cons (re_var 4) (ra_nil)))))) (rar_nil))))
    (rss_cons (rs_set 2 sc_q_rounds_read.nd (re_int))
    (rss_cons (rs_for (passes_of rfl) rfl (by exact (re_iter (re_var 1))) (by exact (gN 3 sc_q_rounds_read.nd))
    (by exact (rss_cons (rs_if (rt_pw (rw_or (rt_cp (c_isN) (re_rd (re_var 3)) (re_rd (re_non))) (rw_or1 (rt_cp (c_lt) (re_rd (re_var 3)) (re_rd (re_int))))))
    (rss_one (rs_ret (re_non)))
    (rss_nil))
    (rss_one (rs_set 2 sc_q_rounds_read.nd (re_mul (re_rd (re_var 2)) (re_rd (re_var 3))))))))
    (rss_cons (rs_if (rt_pw (rw_or (rt_cp (c_gt) (re_rd (re_blt (b_len T.n_len) (rar_cons (re_rd (re_var 1)) (rar_nil)))) (re_rd (re_int))) (rw_or1 (rt_cp (c_gt) (re_rd (re_var 2)) (re_rd (re_int))))))
    (rss_one (rs_ret (re_non)))
    (rss_nil))
    (rss_one (rs_ret (re_var 1)))))))
theorem b_q_size (T : Txt P w K mg base) {f : Addr} (cdv : Value) (A : Around) (outer : List PySem.Env) (s : Shared) (H : Hp) (E : XK) (hr : Room 0 (A.deeper (envOfC "_law_size" (defScope s_q_size) s.heap.objs.size f cdv))) :
    RSs (cxOf (L2.CX P w) P w K mg base N_q_size "_law_size" (defScope s_q_size) f cdv A outer s H E) (WD E) .S (defBody s_q_size) e_q_size :=
  rss_cons (rs_set 1 sc_q_size.nd (re_int))
    (rss_cons (rs_for (passes_of rfl) rfl (by exact (re_iter (re_var 0))) (by exact (gN 2 sc_q_size.nd))
    (by exact (rss_one (rs_set 1 sc_q_size.nd (re_mul (re_rd (re_var 1)) (re_rd (re_var 2)))))))
    (rss_one (rs_ret (re_var 1))))
theorem b_q_element_read (T : Txt P w K mg base) (M_q_number_read : FnM P w K mg base 1 "_law_number_read" .S d_q_number_read) {f : Addr} (cdv : Value) (A : Around) (outer : List PySem.Env) (s : Shared) (H : Hp) (E : XK) (hr : Room 1 (A.deeper (envOfC "_law_element_read" (defScope s_q_element_read) s.heap.objs.size f cdv))) :
    RSs (cxOf (L2.CX P w) P w K mg base N_q_element_read "_law_element_read" (defScope s_q_element_read) f cdv A outer s H E) (WD E) .S (defBody s_q_element_read) e_q_element_read :=
  rss_cons (rs_set 2 sc_q_element_read.nd (re_blt (b_tuple T.n_tuple) (rar_cons (re_rd (re_lc [("_law_word", 5)] rfl sc_q_element_read.nd (re_iter (re_share (re_split (re_var 1) (re_str)))) (blkOk_by (N := N_q_element_read) (sc := defScope s_q_element_read) (by decide +kernel)) (fun _ _ _ _ _ _ => by exact (gN 5 sc_q_element_read.nd)) (fun _ _ _ _ _ => by exact (rts_nil)) (fun _ _ _ _ _ => by exact (re_call M_q_number_read (hr.mono (by decide)) (takes0) (ra_cons (re_var 5) (ra_nil)))))) (rar_nil))))
    (rss_cons (rs_if (rt_cp (c_eq hr) (re_rd (re_var 1)) (re_rd (re_str)))
    (rss_one (rs_set 2 sc_q_element_read.nd (re_tup (ra_nil))))
    (rss_nil))
    (rss_cons (rs_if (rt_cp (c_ne hr) (re_rd (re_blt (b_len T.n_len) (rar_cons (re_rd (re_var 2)) (rar_nil)))) (re_rd (re_blt (b_len T.n_len) (rar_cons (re_rd (re_var 0)) (rar_nil)))))
    (rss_one (rs_ret (re_non)))
    (rss_nil))
    (rss_cons (rs_for (passes_of rfl) rfl (by exact (ri_zip2 T.n_zip (ra_cons (re_var 2) (ra_cons (re_var 0) (ra_nil))))) (by exact (gT 2 rfl (gsc (gN 3 sc_q_element_read.nd) (gsc (gN 4 sc_q_element_read.nd) (gs0)))))
    (by exact (rss_one (rs_if (rt_pw (rw_or (rt_cp (c_isN) (re_rd (re_var 3)) (re_rd (re_non))) (rw_or1 (rt_cp (c_ge) (re_rd (re_var 3)) (re_rd (re_var 4))))))
    (rss_one (rs_ret (re_non)))
    (rss_nil)))))
    (rss_one (rs_ret (re_var 2))))))
theorem b_q_due (T : Txt P w K mg base) (M_q_rounds_read : FnM P w K mg base 2 "_law_rounds_read" .S d_q_rounds_read) (M_q_size : FnM P w K mg base 1 "_law_size" .S d_q_size) (M_q_members : FnM P w K mg base 1 "_law_members" .S d_q_members) (M_q_element_read : FnM P w K mg base 2 "_law_element_read" .S d_q_element_read) {f : Addr} (cdv : Value) (A : Around) (outer : List PySem.Env) (s : Shared) (H : Hp) (E : XK) (hr : Room 2 (A.deeper (envOfC "_law_due" (defScope s_q_due) s.heap.objs.size f cdv))) :
    RSs (cxOf (L2.CX P w) P w K mg base N_q_due "_law_due" (defScope s_q_due) f cdv A outer s H E) (WD E) .S (defBody s_q_due) e_q_due :=
  rss_cons (rs_if (rt_cp (c_eq hr) (re_rd (re_blt (b_len T.n_len) (rar_cons (re_rd (re_var 0)) (rar_nil)))) (re_rd (re_int)))
    (rss_one (rs_ret (re_tup (ra_cons (re_str) (ra_cons (re_int) (ra_nil))))))
    (rss_nil))
    (rss_cons (rs_shareLc 1 (rs_setLc 1 [("_law_word", 11)] rfl sc_q_due.nd (re_iter (re_share (re_split (re_ix hr (re_rd (re_var 0)) (re_rd (re_int))) (re_str)))) (blkOk_by (N := N_q_due) (sc := defScope s_q_due) (by decide +kernel)) (fun _ _ _ _ _ _ => by exact (gN 11 sc_q_due.nd)) (fun _ _ _ _ _ => by exact (rts_nil)) (fun _ _ _ _ _ => by exact (re_call M_q_rounds_read (hr.mono (by decide)) (takes0) (ra_cons (re_var 11) (ra_nil))))))
    (rss_cons (rs_if (rt_pw (rw_or (rt_cp (c_ne hr) (re_rd (re_blt (b_len T.n_len) (rar_cons (re_rd (re_var 1)) (rar_nil)))) (re_rd (re_int))) (rw_or1 (rt_cp (c_inNone T.q_Rounds hr) (re_rd (re_non)) (re_rd (re_var 1))))))
    (rss_one (rs_ret (re_tup (ra_cons (re_str) (ra_cons (re_int) (ra_nil))))))
    (rss_nil))
    (rss_cons (rs_asg (re_var 1) (gL 2 rfl (gsc (gN 2 sc_q_due.nd) (gsc (gN 3 sc_q_due.nd) (gs0)))))
    (rss_cons (rs_if (rt_cp (c_gt) (re_rd (re_call M_q_size (hr.mono (by decide)) (takes_of rfl rfl rfl rfl) (ra_cons (re_var 2) (ra_nil)))) (re_rd (re_int)))
    (rss_one (rs_ret (re_tup (ra_cons (re_str) (ra_nil)))))
    (rss_nil))
    (rss_cons (rs_if (rt_cp (c_gt) (re_rd (re_call M_q_size (hr.mono (by decide)) (takes_of rfl rfl rfl rfl) (ra_cons (re_var 3) (ra_nil)))) (re_rd (re_int)))
    (rss_one (rs_ret (re_tup (ra_cons (re_str) (ra_nil)))))
    (rss_nil))
    (rss_cons (rs_set 4 sc_q_due.nd (re_call M_q_members (hr.mono (by decide)) (takes_of rfl rfl rfl rfl) (ra_cons (re_var 3) (ra_nil))))
    (rss_cons (rs_setO 5 sc_q_due.nd (re_dic0))
    (rss_cons (rs_for (passes_of rfl) rfl (by exact (ri_enumS T.n_enumerate (ra_cons (re_var 4) (ra_nil)))) (by exact (gT 2 rfl (gsc (gN 6 sc_q_due.nd) (gsc (gN 7 sc_q_due.nd) (gs0)))))
    (by exact (rss_cons (rs_if (rt_cp (c_ge) (re_rd (re_add (re_rd (re_var 6)) (re_rd (re_int)))) (re_rd (re_blt (b_len T.n_len) (rar_cons (re_rd (re_var 0)) (rar_nil)))))
    (rss_one (rs_ret (re_tup (ra_cons (re_str) (ra_cons (re_add (re_rd (re_var 6)) (re_rd (re_int))) (ra_nil))))))
    (rss_nil))
    (rss_cons (rs_shareLc 8 (rs_setLc 8 [("_law_word", 11)] rfl sc_q_due.nd (re_iter (re_share (re_split (re_ix hr (re_rd (re_var 0)) (re_rd (re_add (re_rd (re_var 6)) (re_rd (re_int))))) (re_str)))) (blkOk_by (N := N_q_due) (sc := defScope s_q_due) (by decide +kernel)) (fun _ _ _ _ _ _ => by exact (gN 11 sc_q_due.nd)) (fun _ _ _ _ _ => by exact (rts_nil)) (fun _ _ _ _ _ => by exact (re_call M_q_element_read (hr.mono (by decide)) (takes0) (ra_cons (re_var 2) (ra_cons (re_var 11) (ra_nil)))))))
    (rss_cons (rs_if (rt_pw (rw_or (rt_cp (c_ne hr) (re_rd (re_blt (b_len T.n_len) (rar_cons (re_rd (re_var 8)) (rar_nil)))) (re_rd (re_blt (b_len T.n_len) (rar_cons (re_rd (re_var 4)) (rar_nil))))) (rw_or1 (rt_cp (c_inNone T.q_Rounds hr) (re_rd (re_non)) (re_rd (re_var 8))))))
    (rss_one (rs_ret (re_tup (ra_cons (re_str) (ra_cons (re_add (re_rd (re_var 6)) (re_rd (re_int))) (ra_nil))))))
    (rss_nil))
    (rss_one (rs_for (passes_of rfl) rfl (by exact (ri_zip2 T.n_zip (ra_cons (re_var 4) (ra_cons (re_var 8) (ra_nil))))) (by exact (gT 2 rfl (gsc (gN 9 sc_q_due.nd) (gsc (gN 10 sc_q_due.nd) (gs0)))))
    (by exact (rss_one (rs_setItem 5 hr (re_var 10) (re_rd (re_tup (ra_cons (re_var 7) (ra_cons (re_var 9) (ra_nil)))))))))))))))
    (rss_cons (rs_if (rt_cp (c_gt) (re_rd (re_blt (b_len T.n_len) (rar_cons (re_rd (re_var 0)) (rar_nil)))) (re_rd (re_add (re_rd (re_blt (b_len T.n_len) (rar_cons (re_rd (re_var 4)) (rar_nil)))) (re_rd (re_int)))))
    (rss_one (rs_ret (re_tup (ra_cons (re_str) (ra_cons (re_add (re_rd (re_blt (b_len T.n_len) (rar_cons (re_rd (re_var 4)) (rar_nil)))) (re_rd (re_int))) (ra_nil))))))
    (rss_nil))
    (rss_one (rs_frz 5 (rs_ret (re_tup (ra_cons (re_str) (ra_cons (re_var 5) (ra_nil))))))))))))))))
theorem b_law (T : Txt P w K mg base) (M_q_texts : FnM P w K mg base 3 "_law_texts" .S d_q_texts) (M_q_cell : FnM P w K mg base 1 "_law_cell" .S d_q_cell) (M_q_changed : FnM P w K mg base 1 "_law_changed" .S d_q_changed) (M_q_told : FnM P w K mg base 8 "_law_told" .S d_q_told) (M_q_due : FnM P w K mg base 3 "_law_due" .S d_q_due) {f : Addr} (cdv : Value) (A : Around) (outer : List PySem.Env) (s : Shared) (H : Hp) (E : XK) (hr : Room 8 (A.deeper (envOfC "law" (defScope s_law) s.heap.objs.size f cdv))) :
    RSs (cxOf (L2.CX P w) P w K mg base N_law "law" (defScope s_law) f cdv A outer s H E) (WD E) .S (defBody s_law) e_law :=
  rss_cons (rs_set 1 sc_law.nd (re_call M_q_texts (hr.mono (by decide)) (takes_of rfl rfl rfl rfl) (ra_cons (re_var 0) (ra_nil))))
    (rss_cons (rs_set 2 sc_law.nd (re_call M_q_cell (hr.mono (by decide)) (takes_of rfl rfl rfl rfl) (ra_cons (re_var 0) (ra_cons (re_int) (ra_nil)))))
    (rss_cons (rs_if (rt_cp (c_eq hr) (re_rd (re_mod (re_rd (re_var 2)) (re_rd (re_int)))) (re_rd (re_int)))
    (rss_one (rs_set 1 sc_law.nd (re_share (re_lst (ra_nil)))))
    (rss_nil))
    (rss_cons (rs_for (passes_of rfl) rfl (by exact (ri_range1 (b := true) T.n_range (rar_cons (re_rd (re_mod (re_rd (re_div (re_rd (re_var 2)) (re_rd (re_int)))) (re_rd (re_int)))) (rar_nil)))) (by exact (gN 3 sc_law.nd))
    (by exact (rss_one (rs_set 1 sc_law.nd (re_call M_q_changed (hr.mono (by decide)) (takes_of rfl rfl rfl rfl) (ra_cons (re_var 1) (ra_cons (re_call M_q_cell (hr.mono (by decide)) (takes_of rfl rfl rfl rfl) (ra_cons (re_var 0) (ra_cons (re_add (re_rd (re_int)) (re_rd (re_var 3))) (ra_nil)))) (ra_nil))))))))
    (rss_cons (rs_set 4 sc_law.nd (re_share (re_blt (b_list T.n_list) (rar_cons (re_rd (re_var 1)) (rar_nil)))))
    (rss_one (rs_ret (re_and (re_cp (c_eqT hr) (re_rd (re_call M_q_told (hr.mono (by decide)) (takes_of rfl rfl rfl rfl) (ra_cons (re_var 4) (ra_nil)))) (re_rd (re_call M_q_due (hr.mono (by decide)) (takes_of rfl rfl rfl rfl) (ra_cons (re_var 1) (ra_nil))))) (re_one (re_cp (c_eq hr) (re_rd (re_var 4)) (re_rd (re_var 1)))))))))))
end
end
theorem all_mk {P q : Program} {w : World} {K : PySem.W.Frag} {h : Heap} {mg : Str → Option Value} {fa C_CarryError C_NoRounds C_NoElement C_NoLower C_NoUpper C_NoText C_NoCarry C_Group C_Rounds C_Table f_q_rounds f_q_cell f_q_rounds_text f_q_members f_q_element f_q_carries f_q_text f_q_texts f_q_changed f_Table_carries f_NoText_init f_is_whole f_are_rounds f_Rounds_init f_number_read f_rounds_or_none f_groups_read f_Rounds_members f_Group_size f_Rounds_is_even f_look_at_groups f_Rounds_has f_element_or_none f_row_read f_NoCarry_init f_Table_init f_read_table f_q_told f_q_number_read f_q_rounds_read f_q_size f_q_element_read f_q_due f_law : Addr} (X : K.In h) (G : h.Ns mainGlobals mg) (hfa : mg "law" = some (.ref fa))
    {oc_q_rounds kV_q_rounds dc_q_rounds pm_q_rounds cd_q_rounds ct_q_rounds : Value} {od_q_rounds an_q_rounds : Option Addr} {sl_q_rounds : Array (Option Value)}
    {oc_q_cell kV_q_cell dc_q_cell pm_q_cell cd_q_cell ct_q_cell : Value} {od_q_cell an_q_cell : Option Addr} {sl_q_cell : Array (Option Value)}
    {oc_q_rounds_text kV_q_rounds_text dc_q_rounds_text pm_q_rounds_text cd_q_rounds_text ct_q_rounds_text : Value} {od_q_rounds_text an_q_rounds_text : Option Addr} {sl_q_rounds_text : Array (Option Value)}
    {oc_q_members kV_q_members dc_q_members pm_q_members cd_q_members ct_q_members : Value} {od_q_members an_q_members : Option Addr} {sl_q_members : Array (Option Value)}
    {oc_q_element kV_q_element dc_q_element pm_q_element cd_q_element ct_q_element : Value} {od_q_element an_q_element : Option Addr} {sl_q_element : Array (Option Value)}
    {oc_q_carries kV_q_carries dc_q_carries pm_q_carries cd_q_carries ct_q_carries : Value} {od_q_carries an_q_carries : Option Addr} {sl_q_carries : Array (Option Value)}
    {oc_q_text kV_q_text dc_q_text pm_q_text cd_q_text ct_q_text : Value} {od_q_text an_q_text : Option Addr} {sl_q_text : Array (Option Value)}
    {oc_q_texts kV_q_texts dc_q_texts pm_q_texts cd_q_texts ct_q_texts : Value} {od_q_texts an_q_texts : Option Addr} {sl_q_texts : Array (Option Value)}
    {oc_q_changed kV_q_changed dc_q_changed pm_q_changed cd_q_changed ct_q_changed : Value} {od_q_changed an_q_changed : Option Addr} {sl_q_changed : Array (Option Value)}
    {oc_Table_carries kV_Table_carries dc_Table_carries pm_Table_carries cd_Table_carries ct_Table_carries : Value} {od_Table_carries an_Table_carries : Option Addr} {sl_Table_carries : Array (Option Value)}
    {oc_NoText_init kV_NoText_init dc_NoText_init pm_NoText_init cd_NoText_init ct_NoText_init : Value} {od_NoText_init an_NoText_init : Option Addr} {sl_NoText_init : Array (Option Value)}
    {oc_is_whole kV_is_whole dc_is_whole pm_is_whole cd_is_whole ct_is_whole : Value} {od_is_whole an_is_whole : Option Addr} {sl_is_whole : Array (Option Value)}
    {oc_are_rounds kV_are_rounds dc_are_rounds pm_are_rounds cd_are_rounds ct_are_rounds : Value} {od_are_rounds an_are_rounds : Option Addr} {sl_are_rounds : Array (Option Value)}
    {oc_Rounds_init kV_Rounds_init dc_Rounds_init pm_Rounds_init cd_Rounds_init ct_Rounds_init : Value} {od_Rounds_init an_Rounds_init : Option Addr} {sl_Rounds_init : Array (Option Value)}
    {oc_number_read kV_number_read dc_number_read pm_number_read cd_number_read ct_number_read : Value} {od_number_read an_number_read : Option Addr} {sl_number_read : Array (Option Value)}
    {oc_rounds_or_none kV_rounds_or_none dc_rounds_or_none pm_rounds_or_none cd_rounds_or_none ct_rounds_or_none : Value} {od_rounds_or_none an_rounds_or_none : Option Addr} {sl_rounds_or_none : Array (Option Value)}
    {oc_groups_read kV_groups_read dc_groups_read pm_groups_read cd_groups_read ct_groups_read : Value} {od_groups_read an_groups_read : Option Addr} {sl_groups_read : Array (Option Value)}
    {oc_Rounds_members kV_Rounds_members dc_Rounds_members pm_Rounds_members cd_Rounds_members ct_Rounds_members : Value} {od_Rounds_members an_Rounds_members : Option Addr} {sl_Rounds_members : Array (Option Value)}
    {oc_Group_size kV_Group_size dc_Group_size pm_Group_size cd_Group_size ct_Group_size : Value} {od_Group_size an_Group_size : Option Addr} {sl_Group_size : Array (Option Value)}
    {oc_Rounds_is_even kV_Rounds_is_even dc_Rounds_is_even pm_Rounds_is_even cd_Rounds_is_even ct_Rounds_is_even : Value} {od_Rounds_is_even an_Rounds_is_even : Option Addr} {sl_Rounds_is_even : Array (Option Value)}
    {oc_look_at_groups kV_look_at_groups dc_look_at_groups pm_look_at_groups cd_look_at_groups ct_look_at_groups : Value} {od_look_at_groups an_look_at_groups : Option Addr} {sl_look_at_groups : Array (Option Value)}
    {oc_Rounds_has kV_Rounds_has dc_Rounds_has pm_Rounds_has cd_Rounds_has ct_Rounds_has : Value} {od_Rounds_has an_Rounds_has : Option Addr} {sl_Rounds_has : Array (Option Value)}
    {oc_element_or_none kV_element_or_none dc_element_or_none pm_element_or_none cd_element_or_none ct_element_or_none : Value} {od_element_or_none an_element_or_none : Option Addr} {sl_element_or_none : Array (Option Value)}
    {oc_row_read kV_row_read dc_row_read pm_row_read cd_row_read ct_row_read : Value} {od_row_read an_row_read : Option Addr} {sl_row_read : Array (Option Value)}
    {oc_NoCarry_init kV_NoCarry_init dc_NoCarry_init pm_NoCarry_init cd_NoCarry_init ct_NoCarry_init : Value} {od_NoCarry_init an_NoCarry_init : Option Addr} {sl_NoCarry_init : Array (Option Value)}
    {oc_Table_init kV_Table_init dc_Table_init pm_Table_init cd_Table_init ct_Table_init : Value} {od_Table_init an_Table_init : Option Addr} {sl_Table_init : Array (Option Value)}
    {oc_read_table kV_read_table dc_read_table pm_read_table cd_read_table ct_read_table : Value} {od_read_table an_read_table : Option Addr} {sl_read_table : Array (Option Value)}
    {oc_q_told kV_q_told dc_q_told pm_q_told cd_q_told ct_q_told : Value} {od_q_told an_q_told : Option Addr} {sl_q_told : Array (Option Value)}
    {oc_q_number_read kV_q_number_read dc_q_number_read pm_q_number_read cd_q_number_read ct_q_number_read : Value} {od_q_number_read an_q_number_read : Option Addr} {sl_q_number_read : Array (Option Value)}
    {oc_q_rounds_read kV_q_rounds_read dc_q_rounds_read pm_q_rounds_read cd_q_rounds_read ct_q_rounds_read : Value} {od_q_rounds_read an_q_rounds_read : Option Addr} {sl_q_rounds_read : Array (Option Value)}
    {oc_q_size kV_q_size dc_q_size pm_q_size cd_q_size ct_q_size : Value} {od_q_size an_q_size : Option Addr} {sl_q_size : Array (Option Value)}
    {oc_q_element_read kV_q_element_read dc_q_element_read pm_q_element_read cd_q_element_read ct_q_element_read : Value} {od_q_element_read an_q_element_read : Option Addr} {sl_q_element_read : Array (Option Value)}
    {oc_q_due kV_q_due dc_q_due pm_q_due cd_q_due ct_q_due : Value} {od_q_due an_q_due : Option Addr} {sl_q_due : Array (Option Value)}
    {oc_law kV_law dc_law pm_law cd_law ct_law : Value} {od_law an_law : Option Addr} {sl_law : Array (Option Value)}
    {nm_NoText q_NoText : Str} {NA_NoText : Addr} {bs_NoText bm_NoText : List Value} {sn_NoText : List Str} {sub_NoText : List Value} {ab_NoText : Bool} {col_NoText : Option Bool} {dd_NoText : Option Addr} {k0_NoText k1_NoText k2_NoText k3_NoText k5_NoText : Option Value}
    {t_MOST_ROUNDS : Tok}
    {t_MOST_ELEMENTS : Tok}
    {t_MOST_FIGURES : Tok}
    {t_FIGURES : Tok}
    {t_MOST_LOWER : Tok}
    {t_MOST_UPPER : Tok}
    {nm_NoCarry q_NoCarry : Str} {NA_NoCarry : Addr} {bs_NoCarry bm_NoCarry : List Value} {sn_NoCarry : List Str} {sub_NoCarry : List Value} {ab_NoCarry : Bool} {col_NoCarry : Option Bool} {dd_NoCarry : Option Addr} {k0_NoCarry k1_NoCarry k2_NoCarry k3_NoCarry k5_NoCarry : Option Value}
    (aC_CarryError : PySem.W.nsIn K mainGlobals "CarryError" = some (some (.ref C_CarryError)))
    (aC_NoRounds : PySem.W.nsIn K mainGlobals "NoRounds" = some (some (.ref C_NoRounds)))
    (aC_NoElement : PySem.W.nsIn K mainGlobals "NoElement" = some (some (.ref C_NoElement)))
    (aC_NoLower : PySem.W.nsIn K mainGlobals "NoLower" = some (some (.ref C_NoLower)))
    (aC_NoUpper : PySem.W.nsIn K mainGlobals "NoUpper" = some (some (.ref C_NoUpper)))
    (aC_NoText : PySem.W.nsIn K mainGlobals "NoText" = some (some (.ref C_NoText)))
    (aC_NoCarry : PySem.W.nsIn K mainGlobals "NoCarry" = some (some (.ref C_NoCarry)))
    (aC_Group : PySem.W.nsIn K mainGlobals "Group" = some (some (.ref C_Group)))
    (aC_Rounds : PySem.W.nsIn K mainGlobals "Rounds" = some (some (.ref C_Rounds)))
    (aC_Table : PySem.W.nsIn K mainGlobals "Table" = some (some (.ref C_Table)))
    (a_q_rounds : PySem.W.nsIn K mainGlobals "_law_rounds" = some (some (.ref f_q_rounds)))
    (l_q_rounds : K.lookup f_q_rounds = some ⟨oc_q_rounds, od_q_rounds, .func (PySem.W.fnOf "_law_rounds" "_law_rounds" (defArgs s_q_rounds) (defBody s_q_rounds) (defScope s_q_rounds) .none kV_q_rounds dc_q_rounds pm_q_rounds an_q_rounds cd_q_rounds ct_q_rounds), sl_q_rounds⟩)
    (c_q_rounds : PySem.W.codeIn K cd_q_rounds "_law_rounds" = true) (k_q_rounds : PySem.W.keepIn K (.ref f_q_rounds) = true)
    (a_q_cell : PySem.W.nsIn K mainGlobals "_law_cell" = some (some (.ref f_q_cell)))
    (l_q_cell : K.lookup f_q_cell = some ⟨oc_q_cell, od_q_cell, .func (PySem.W.fnOf "_law_cell" "_law_cell" (defArgs s_q_cell) (defBody s_q_cell) (defScope s_q_cell) .none kV_q_cell dc_q_cell pm_q_cell an_q_cell cd_q_cell ct_q_cell), sl_q_cell⟩)
    (c_q_cell : PySem.W.codeIn K cd_q_cell "_law_cell" = true) (k_q_cell : PySem.W.keepIn K (.ref f_q_cell) = true)
    (a_q_rounds_text : PySem.W.nsIn K mainGlobals "_law_rounds_text" = some (some (.ref f_q_rounds_text)))
    (l_q_rounds_text : K.lookup f_q_rounds_text = some ⟨oc_q_rounds_text, od_q_rounds_text, .func (PySem.W.fnOf "_law_rounds_text" "_law_rounds_text" (defArgs s_q_rounds_text) (defBody s_q_rounds_text) (defScope s_q_rounds_text) .none kV_q_rounds_text dc_q_rounds_text pm_q_rounds_text an_q_rounds_text cd_q_rounds_text ct_q_rounds_text), sl_q_rounds_text⟩)
    (c_q_rounds_text : PySem.W.codeIn K cd_q_rounds_text "_law_rounds_text" = true) (k_q_rounds_text : PySem.W.keepIn K (.ref f_q_rounds_text) = true)
    (a_q_members : PySem.W.nsIn K mainGlobals "_law_members" = some (some (.ref f_q_members)))
    (l_q_members : K.lookup f_q_members = some ⟨oc_q_members, od_q_members, .func (PySem.W.fnOf "_law_members" "_law_members" (defArgs s_q_members) (defBody s_q_members) (defScope s_q_members) .none kV_q_members dc_q_members pm_q_members an_q_members cd_q_members ct_q_members), sl_q_members⟩)
    (c_q_members : PySem.W.codeIn K cd_q_members "_law_members" = true) (k_q_members : PySem.W.keepIn K (.ref f_q_members) = true)
    (a_q_element : PySem.W.nsIn K mainGlobals "_law_element" = some (some (.ref f_q_element)))
    (l_q_element : K.lookup f_q_element = some ⟨oc_q_element, od_q_element, .func (PySem.W.fnOf "_law_element" "_law_element" (defArgs s_q_element) (defBody s_q_element) (defScope s_q_element) .none kV_q_element dc_q_element pm_q_element an_q_element cd_q_element ct_q_element), sl_q_element⟩)
    (c_q_element : PySem.W.codeIn K cd_q_element "_law_element" = true) (k_q_element : PySem.W.keepIn K (.ref f_q_element) = true)
    (a_q_carries : PySem.W.nsIn K mainGlobals "_law_carries" = some (some (.ref f_q_carries)))
    (l_q_carries : K.lookup f_q_carries = some ⟨oc_q_carries, od_q_carries, .func (PySem.W.fnOf "_law_carries" "_law_carries" (defArgs s_q_carries) (defBody s_q_carries) (defScope s_q_carries) .none kV_q_carries dc_q_carries pm_q_carries an_q_carries cd_q_carries ct_q_carries), sl_q_carries⟩)
    (c_q_carries : PySem.W.codeIn K cd_q_carries "_law_carries" = true) (k_q_carries : PySem.W.keepIn K (.ref f_q_carries) = true)
    (a_q_text : PySem.W.nsIn K mainGlobals "_law_text" = some (some (.ref f_q_text)))
    (l_q_text : K.lookup f_q_text = some ⟨oc_q_text, od_q_text, .func (PySem.W.fnOf "_law_text" "_law_text" (defArgs s_q_text) (defBody s_q_text) (defScope s_q_text) .none kV_q_text dc_q_text pm_q_text an_q_text cd_q_text ct_q_text), sl_q_text⟩)
    (c_q_text : PySem.W.codeIn K cd_q_text "_law_text" = true) (k_q_text : PySem.W.keepIn K (.ref f_q_text) = true)
    (a_q_texts : PySem.W.nsIn K mainGlobals "_law_texts" = some (some (.ref f_q_texts)))
    (l_q_texts : K.lookup f_q_texts = some ⟨oc_q_texts, od_q_texts, .func (PySem.W.fnOf "_law_texts" "_law_texts" (defArgs s_q_texts) (defBody s_q_texts) (defScope s_q_texts) .none kV_q_texts dc_q_texts pm_q_texts an_q_texts cd_q_texts ct_q_texts), sl_q_texts⟩)
    (c_q_texts : PySem.W.codeIn K cd_q_texts "_law_texts" = true) (k_q_texts : PySem.W.keepIn K (.ref f_q_texts) = true)
    (a_q_changed : PySem.W.nsIn K mainGlobals "_law_changed" = some (some (.ref f_q_changed)))
    (l_q_changed : K.lookup f_q_changed = some ⟨oc_q_changed, od_q_changed, .func (PySem.W.fnOf "_law_changed" "_law_changed" (defArgs s_q_changed) (defBody s_q_changed) (defScope s_q_changed) .none kV_q_changed dc_q_changed pm_q_changed an_q_changed cd_q_changed ct_q_changed), sl_q_changed⟩)
    (c_q_changed : PySem.W.codeIn K cd_q_changed "_law_changed" = true) (k_q_changed : PySem.W.keepIn K (.ref f_q_changed) = true)
    (a_Table_carries : PySem.W.findIn K (.ref C_Table) "carries" = some (some (.ref f_Table_carries)))
    (l_Table_carries : K.lookup f_Table_carries = some ⟨oc_Table_carries, od_Table_carries, .func (PySem.W.fnOf "carries" "Table.carries" (defArgs s_Table_carries) (defBody s_Table_carries) (defScope s_Table_carries) .none kV_Table_carries dc_Table_carries pm_Table_carries an_Table_carries cd_Table_carries ct_Table_carries), sl_Table_carries⟩)
    (c_Table_carries : PySem.W.codeIn K cd_Table_carries "Table.carries" = true) (k_Table_carries : PySem.W.keepIn K (.ref f_Table_carries) = true)
    (i_Table_carries : PySem.W.isFn K (.ref f_Table_carries) = true)
    (a_NoText_init : PySem.W.findIn K (.ref C_NoText) "__init__" = some (some (.ref f_NoText_init)))
    (l_NoText_init : K.lookup f_NoText_init = some ⟨oc_NoText_init, od_NoText_init, .func (PySem.W.fnOf "__init__" "NoText.__init__" (defArgs s_NoText_init) (defBody s_NoText_init) (defScope s_NoText_init) .none kV_NoText_init dc_NoText_init pm_NoText_init an_NoText_init cd_NoText_init ct_NoText_init), sl_NoText_init⟩)
    (c_NoText_init : PySem.W.codeIn K cd_NoText_init "NoText.__init__" = true) (k_NoText_init : PySem.W.keepIn K (.ref f_NoText_init) = true)
    (a_is_whole : PySem.W.nsIn K mainGlobals "is_whole" = some (some (.ref f_is_whole)))
    (l_is_whole : K.lookup f_is_whole = some ⟨oc_is_whole, od_is_whole, .func (PySem.W.fnOf "is_whole" "is_whole" (defArgs s_is_whole) (defBody s_is_whole) (defScope s_is_whole) .none kV_is_whole dc_is_whole pm_is_whole an_is_whole cd_is_whole ct_is_whole), sl_is_whole⟩)
    (c_is_whole : PySem.W.codeIn K cd_is_whole "is_whole" = true) (k_is_whole : PySem.W.keepIn K (.ref f_is_whole) = true)
    (a_are_rounds : PySem.W.nsIn K mainGlobals "are_rounds" = some (some (.ref f_are_rounds)))
    (l_are_rounds : K.lookup f_are_rounds = some ⟨oc_are_rounds, od_are_rounds, .func (PySem.W.fnOf "are_rounds" "are_rounds" (defArgs s_are_rounds) (defBody s_are_rounds) (defScope s_are_rounds) .none kV_are_rounds dc_are_rounds pm_are_rounds an_are_rounds cd_are_rounds ct_are_rounds), sl_are_rounds⟩)
    (c_are_rounds : PySem.W.codeIn K cd_are_rounds "are_rounds" = true) (k_are_rounds : PySem.W.keepIn K (.ref f_are_rounds) = true)
    (a_Rounds_init : PySem.W.findIn K (.ref C_Rounds) "__init__" = some (some (.ref f_Rounds_init)))
    (l_Rounds_init : K.lookup f_Rounds_init = some ⟨oc_Rounds_init, od_Rounds_init, .func (PySem.W.fnOf "__init__" "Rounds.__init__" (defArgs s_Rounds_init) (defBody s_Rounds_init) (defScope s_Rounds_init) .none kV_Rounds_init dc_Rounds_init pm_Rounds_init an_Rounds_init cd_Rounds_init ct_Rounds_init), sl_Rounds_init⟩)
    (c_Rounds_init : PySem.W.codeIn K cd_Rounds_init "Rounds.__init__" = true) (k_Rounds_init : PySem.W.keepIn K (.ref f_Rounds_init) = true)
    (i_Rounds_init : PySem.W.isFn K (.ref f_Rounds_init) = true)
    (a_number_read : PySem.W.nsIn K mainGlobals "number_read" = some (some (.ref f_number_read)))
    (l_number_read : K.lookup f_number_read = some ⟨oc_number_read, od_number_read, .func (PySem.W.fnOf "number_read" "number_read" (defArgs s_number_read) (defBody s_number_read) (defScope s_number_read) .none kV_number_read dc_number_read pm_number_read an_number_read cd_number_read ct_number_read), sl_number_read⟩)
    (c_number_read : PySem.W.codeIn K cd_number_read "number_read" = true) (k_number_read : PySem.W.keepIn K (.ref f_number_read) = true)
    (a_rounds_or_none : PySem.W.nsIn K mainGlobals "rounds_or_none" = some (some (.ref f_rounds_or_none)))
    (l_rounds_or_none : K.lookup f_rounds_or_none = some ⟨oc_rounds_or_none, od_rounds_or_none, .func (PySem.W.fnOf "rounds_or_none" "rounds_or_none" (defArgs s_rounds_or_none) (defBody s_rounds_or_none) (defScope s_rounds_or_none) .none kV_rounds_or_none dc_rounds_or_none pm_rounds_or_none an_rounds_or_none cd_rounds_or_none ct_rounds_or_none), sl_rounds_or_none⟩)
    (c_rounds_or_none : PySem.W.codeIn K cd_rounds_or_none "rounds_or_none" = true) (k_rounds_or_none : PySem.W.keepIn K (.ref f_rounds_or_none) = true)
    (a_groups_read : PySem.W.nsIn K mainGlobals "groups_read" = some (some (.ref f_groups_read)))
    (l_groups_read : K.lookup f_groups_read = some ⟨oc_groups_read, od_groups_read, .func (PySem.W.fnOf "groups_read" "groups_read" (defArgs s_groups_read) (defBody s_groups_read) (defScope s_groups_read) .none kV_groups_read dc_groups_read pm_groups_read an_groups_read cd_groups_read ct_groups_read), sl_groups_read⟩)
    (c_groups_read : PySem.W.codeIn K cd_groups_read "groups_read" = true) (k_groups_read : PySem.W.keepIn K (.ref f_groups_read) = true)
    (a_Rounds_members : PySem.W.findIn K (.ref C_Rounds) "members" = some (some (.ref f_Rounds_members)))
    (l_Rounds_members : K.lookup f_Rounds_members = some ⟨oc_Rounds_members, od_Rounds_members, .func (PySem.W.fnOf "members" "Rounds.members" (defArgs s_Rounds_members) (defBody s_Rounds_members) (defScope s_Rounds_members) .none kV_Rounds_members dc_Rounds_members pm_Rounds_members an_Rounds_members cd_Rounds_members ct_Rounds_members), sl_Rounds_members⟩)
    (c_Rounds_members : PySem.W.codeIn K cd_Rounds_members "Rounds.members" = true) (k_Rounds_members : PySem.W.keepIn K (.ref f_Rounds_members) = true)
    (i_Rounds_members : PySem.W.isFn K (.ref f_Rounds_members) = true)
    (a_Group_size : PySem.W.findIn K (.ref C_Group) "size" = some (some (.ref f_Group_size)))
    (l_Group_size : K.lookup f_Group_size = some ⟨oc_Group_size, od_Group_size, .func (PySem.W.fnOf "size" "Group.size" (defArgs s_Group_size) (defBody s_Group_size) (defScope s_Group_size) .none kV_Group_size dc_Group_size pm_Group_size an_Group_size cd_Group_size ct_Group_size), sl_Group_size⟩)
    (c_Group_size : PySem.W.codeIn K cd_Group_size "Group.size" = true) (k_Group_size : PySem.W.keepIn K (.ref f_Group_size) = true)
    (i_Group_size : PySem.W.isFn K (.ref f_Group_size) = true)
    (a_Rounds_is_even : PySem.W.findIn K (.ref C_Rounds) "is_even" = some (some (.ref f_Rounds_is_even)))
    (l_Rounds_is_even : K.lookup f_Rounds_is_even = some ⟨oc_Rounds_is_even, od_Rounds_is_even, .func (PySem.W.fnOf "is_even" "Rounds.is_even" (defArgs s_Rounds_is_even) (defBody s_Rounds_is_even) (defScope s_Rounds_is_even) .none kV_Rounds_is_even dc_Rounds_is_even pm_Rounds_is_even an_Rounds_is_even cd_Rounds_is_even ct_Rounds_is_even), sl_Rounds_is_even⟩)
    (c_Rounds_is_even : PySem.W.codeIn K cd_Rounds_is_even "Rounds.is_even" = true) (k_Rounds_is_even : PySem.W.keepIn K (.ref f_Rounds_is_even) = true)
    (i_Rounds_is_even : PySem.W.isFn K (.ref f_Rounds_is_even) = true)
    (a_look_at_groups : PySem.W.nsIn K mainGlobals "look_at_groups" = some (some (.ref f_look_at_groups)))
    (l_look_at_groups : K.lookup f_look_at_groups = some ⟨oc_look_at_groups, od_look_at_groups, .func (PySem.W.fnOf "look_at_groups" "look_at_groups" (defArgs s_look_at_groups) (defBody s_look_at_groups) (defScope s_look_at_groups) .none kV_look_at_groups dc_look_at_groups pm_look_at_groups an_look_at_groups cd_look_at_groups ct_look_at_groups), sl_look_at_groups⟩)
    (c_look_at_groups : PySem.W.codeIn K cd_look_at_groups "look_at_groups" = true) (k_look_at_groups : PySem.W.keepIn K (.ref f_look_at_groups) = true)
    (a_Rounds_has : PySem.W.findIn K (.ref C_Rounds) "has" = some (some (.ref f_Rounds_has)))
    (l_Rounds_has : K.lookup f_Rounds_has = some ⟨oc_Rounds_has, od_Rounds_has, .func (PySem.W.fnOf "has" "Rounds.has" (defArgs s_Rounds_has) (defBody s_Rounds_has) (defScope s_Rounds_has) .none kV_Rounds_has dc_Rounds_has pm_Rounds_has an_Rounds_has cd_Rounds_has ct_Rounds_has), sl_Rounds_has⟩)
    (c_Rounds_has : PySem.W.codeIn K cd_Rounds_has "Rounds.has" = true) (k_Rounds_has : PySem.W.keepIn K (.ref f_Rounds_has) = true)
    (i_Rounds_has : PySem.W.isFn K (.ref f_Rounds_has) = true)
    (a_element_or_none : PySem.W.nsIn K mainGlobals "element_or_none" = some (some (.ref f_element_or_none)))
    (l_element_or_none : K.lookup f_element_or_none = some ⟨oc_element_or_none, od_element_or_none, .func (PySem.W.fnOf "element_or_none" "element_or_none" (defArgs s_element_or_none) (defBody s_element_or_none) (defScope s_element_or_none) .none kV_element_or_none dc_element_or_none pm_element_or_none an_element_or_none cd_element_or_none ct_element_or_none), sl_element_or_none⟩)
    (c_element_or_none : PySem.W.codeIn K cd_element_or_none "element_or_none" = true) (k_element_or_none : PySem.W.keepIn K (.ref f_element_or_none) = true)
    (a_row_read : PySem.W.nsIn K mainGlobals "row_read" = some (some (.ref f_row_read)))
    (l_row_read : K.lookup f_row_read = some ⟨oc_row_read, od_row_read, .func (PySem.W.fnOf "row_read" "row_read" (defArgs s_row_read) (defBody s_row_read) (defScope s_row_read) .none kV_row_read dc_row_read pm_row_read an_row_read cd_row_read ct_row_read), sl_row_read⟩)
    (c_row_read : PySem.W.codeIn K cd_row_read "row_read" = true) (k_row_read : PySem.W.keepIn K (.ref f_row_read) = true)
    (a_NoCarry_init : PySem.W.findIn K (.ref C_NoCarry) "__init__" = some (some (.ref f_NoCarry_init)))
    (l_NoCarry_init : K.lookup f_NoCarry_init = some ⟨oc_NoCarry_init, od_NoCarry_init, .func (PySem.W.fnOf "__init__" "NoCarry.__init__" (defArgs s_NoCarry_init) (defBody s_NoCarry_init) (defScope s_NoCarry_init) .none kV_NoCarry_init dc_NoCarry_init pm_NoCarry_init an_NoCarry_init cd_NoCarry_init ct_NoCarry_init), sl_NoCarry_init⟩)
    (c_NoCarry_init : PySem.W.codeIn K cd_NoCarry_init "NoCarry.__init__" = true) (k_NoCarry_init : PySem.W.keepIn K (.ref f_NoCarry_init) = true)
    (a_Table_init : PySem.W.findIn K (.ref C_Table) "__init__" = some (some (.ref f_Table_init)))
    (l_Table_init : K.lookup f_Table_init = some ⟨oc_Table_init, od_Table_init, .func (PySem.W.fnOf "__init__" "Table.__init__" (defArgs s_Table_init) (defBody s_Table_init) (defScope s_Table_init) .none kV_Table_init dc_Table_init pm_Table_init an_Table_init cd_Table_init ct_Table_init), sl_Table_init⟩)
    (c_Table_init : PySem.W.codeIn K cd_Table_init "Table.__init__" = true) (k_Table_init : PySem.W.keepIn K (.ref f_Table_init) = true)
    (i_Table_init : PySem.W.isFn K (.ref f_Table_init) = true)
    (a_read_table : PySem.W.nsIn K mainGlobals "read_table" = some (some (.ref f_read_table)))
    (l_read_table : K.lookup f_read_table = some ⟨oc_read_table, od_read_table, .func (PySem.W.fnOf "read_table" "read_table" (defArgs s_read_table) (defBody s_read_table) (defScope s_read_table) .none kV_read_table dc_read_table pm_read_table an_read_table cd_read_table ct_read_table), sl_read_table⟩)
    (c_read_table : PySem.W.codeIn K cd_read_table "read_table" = true) (k_read_table : PySem.W.keepIn K (.ref f_read_table) = true)
    (a_q_told : PySem.W.nsIn K mainGlobals "_law_told" = some (some (.ref f_q_told)))
    (l_q_told : K.lookup f_q_told = some ⟨oc_q_told, od_q_told, .func (PySem.W.fnOf "_law_told" "_law_told" (defArgs s_q_told) (defBody s_q_told) (defScope s_q_told) .none kV_q_told dc_q_told pm_q_told an_q_told cd_q_told ct_q_told), sl_q_told⟩)
    (c_q_told : PySem.W.codeIn K cd_q_told "_law_told" = true) (k_q_told : PySem.W.keepIn K (.ref f_q_told) = true)
    (a_q_number_read : PySem.W.nsIn K mainGlobals "_law_number_read" = some (some (.ref f_q_number_read)))
    (l_q_number_read : K.lookup f_q_number_read = some ⟨oc_q_number_read, od_q_number_read, .func (PySem.W.fnOf "_law_number_read" "_law_number_read" (defArgs s_q_number_read) (defBody s_q_number_read) (defScope s_q_number_read) .none kV_q_number_read dc_q_number_read pm_q_number_read an_q_number_read cd_q_number_read ct_q_number_read), sl_q_number_read⟩)
    (c_q_number_read : PySem.W.codeIn K cd_q_number_read "_law_number_read" = true) (k_q_number_read : PySem.W.keepIn K (.ref f_q_number_read) = true)
    (a_q_rounds_read : PySem.W.nsIn K mainGlobals "_law_rounds_read" = some (some (.ref f_q_rounds_read)))
    (l_q_rounds_read : K.lookup f_q_rounds_read = some ⟨oc_q_rounds_read, od_q_rounds_read, .func (PySem.W.fnOf "_law_rounds_read" "_law_rounds_read" (defArgs s_q_rounds_read) (defBody s_q_rounds_read) (defScope s_q_rounds_read) .none kV_q_rounds_read dc_q_rounds_read pm_q_rounds_read an_q_rounds_read cd_q_rounds_read ct_q_rounds_read), sl_q_rounds_read⟩)
    (c_q_rounds_read : PySem.W.codeIn K cd_q_rounds_read "_law_rounds_read" = true) (k_q_rounds_read : PySem.W.keepIn K (.ref f_q_rounds_read) = true)
    (a_q_size : PySem.W.nsIn K mainGlobals "_law_size" = some (some (.ref f_q_size)))
    (l_q_size : K.lookup f_q_size = some ⟨oc_q_size, od_q_size, .func (PySem.W.fnOf "_law_size" "_law_size" (defArgs s_q_size) (defBody s_q_size) (defScope s_q_size) .none kV_q_size dc_q_size pm_q_size an_q_size cd_q_size ct_q_size), sl_q_size⟩)
    (c_q_size : PySem.W.codeIn K cd_q_size "_law_size" = true) (k_q_size : PySem.W.keepIn K (.ref f_q_size) = true)
    (a_q_element_read : PySem.W.nsIn K mainGlobals "_law_element_read" = some (some (.ref f_q_element_read)))
    (l_q_element_read : K.lookup f_q_element_read = some ⟨oc_q_element_read, od_q_element_read, .func (PySem.W.fnOf "_law_element_read" "_law_element_read" (defArgs s_q_element_read) (defBody s_q_element_read) (defScope s_q_element_read) .none kV_q_element_read dc_q_element_read pm_q_element_read an_q_element_read cd_q_element_read ct_q_element_read), sl_q_element_read⟩)
    (c_q_element_read : PySem.W.codeIn K cd_q_element_read "_law_element_read" = true) (k_q_element_read : PySem.W.keepIn K (.ref f_q_element_read) = true)
    (a_q_due : PySem.W.nsIn K mainGlobals "_law_due" = some (some (.ref f_q_due)))
    (l_q_due : K.lookup f_q_due = some ⟨oc_q_due, od_q_due, .func (PySem.W.fnOf "_law_due" "_law_due" (defArgs s_q_due) (defBody s_q_due) (defScope s_q_due) .none kV_q_due dc_q_due pm_q_due an_q_due cd_q_due ct_q_due), sl_q_due⟩)
    (c_q_due : PySem.W.codeIn K cd_q_due "_law_due" = true) (k_q_due : PySem.W.keepIn K (.ref f_q_due) = true)
    (a_law : PySem.W.nsIn K mainGlobals "law" = some (some (.ref f_law)))
    (l_law : K.lookup f_law = some ⟨oc_law, od_law, .func (PySem.W.fnOf "law" "law" (defArgs s_law) (defBody s_law) (defScope s_law) .none kV_law dc_law pm_law an_law cd_law ct_law), sl_law⟩)
    (c_law : PySem.W.codeIn K cd_law "law" = true) (k_law : PySem.W.keepIn K (.ref f_law) = true)
    (z_range : PySem.W.nsIn K mainGlobals "range" = some none)
    (z_min : PySem.W.nsIn K mainGlobals "min" = some none)
    (z_tuple : PySem.W.nsIn K mainGlobals "tuple" = some none)
    (z_len : PySem.W.nsIn K mainGlobals "len" = some none)
    (z_sum : PySem.W.nsIn K mainGlobals "sum" = some none)
    (z_str : PySem.W.nsIn K mainGlobals "str" = some none)
    (z_enumerate : PySem.W.nsIn K mainGlobals "enumerate" = some none)
    (z_list : PySem.W.nsIn K mainGlobals "list" = some none)
    (z_dict : PySem.W.nsIn K mainGlobals "dict" = some none)
    (fl_kept : flB K "kept" [(2, C_Table)] = true)
    (xL_NoText : K.lookup C_NoText = some (excClassObj nm_NoText q_NoText C_NoText NA_NoText bs_NoText bm_NoText true sn_NoText sub_NoText ab_NoText col_NoText dd_NoText k0_NoText k1_NoText k2_NoText k3_NoText k5_NoText "ValueError.__new__")) (rv_NoText : PySem.HandSPX.refsVE bm_NoText = true) (ob_NoText : oexB K C_NoText = true) (tI_NoText : PySem.W.typeIn K (.ref f_NoText_init) = some (.type "function"))
    (no_NoText_at : PySem.W.findIn K (.ref C_NoText) "at" = some none)
    (z_isinstance : PySem.W.nsIn K mainGlobals "isinstance" = some none)
    (z_MOST_ROUNDS : PySem.W.nsIn K mainGlobals "MOST_ROUNDS" = some (some (.int (7) t_MOST_ROUNDS)))
    (z_int : PySem.W.nsIn K mainGlobals "int" = some none)
    (z_bool : PySem.W.nsIn K mainGlobals "bool" = some none)
    (z_MOST_ELEMENTS : PySem.W.nsIn K mainGlobals "MOST_ELEMENTS" = some (some (.int (144) t_MOST_ELEMENTS)))
    (ob_NoRounds : e0B K C_NoRounds = true)
    (fl_rounds : flB K "rounds" [(0, C_Rounds)] = true)
    (z_MOST_FIGURES : PySem.W.nsIn K mainGlobals "MOST_FIGURES" = some (some (.int (3) t_MOST_FIGURES)))
    (z_FIGURES : PySem.W.nsIn K mainGlobals "FIGURES" = some (some (.str "0123456789" t_FIGURES)))
    (nq_Rounds : neB K C_Rounds = true)
    (z_MOST_LOWER : PySem.W.nsIn K mainGlobals "MOST_LOWER" = some (some (.int (16) t_MOST_LOWER)))
    (ob_NoLower : e0B K C_NoLower = true)
    (z_MOST_UPPER : PySem.W.nsIn K mainGlobals "MOST_UPPER" = some (some (.int (9) t_MOST_UPPER)))
    (ob_NoUpper : e0B K C_NoUpper = true)
    (z_zip : PySem.W.nsIn K mainGlobals "zip" = some none)
    (fl_lower : flB K "lower" [(2, C_Table)] = true)
    (fl_upper : flB K "upper" [(2, C_Table)] = true)
    (xL_NoCarry : K.lookup C_NoCarry = some (excClassObj nm_NoCarry q_NoCarry C_NoCarry NA_NoCarry bs_NoCarry bm_NoCarry true sn_NoCarry sub_NoCarry ab_NoCarry col_NoCarry dd_NoCarry k0_NoCarry k1_NoCarry k2_NoCarry k3_NoCarry k5_NoCarry "ValueError.__new__")) (rv_NoCarry : PySem.HandSPX.refsVE bm_NoCarry = true) (ob_NoCarry : oexB K C_NoCarry = true) (tI_NoCarry : PySem.W.typeIn K (.ref f_NoCarry_init) = some (.type "function"))
    (no_NoCarry_y : PySem.W.findIn K (.ref C_NoCarry) "y" = some none)
    (no_NoCarry_x : PySem.W.findIn K (.ref C_NoCarry) "x" = some none)
    (xl_at : xlB K "at" [(22, C_NoText)] = true)
    (z_ValueError : PySem.W.nsIn K mainGlobals "ValueError" = some none)
    (z_all : PySem.W.nsIn K mainGlobals "all" = some none)
    (hIs : isTab K [(10, C_CarryError), (11, C_NoRounds), (12, C_NoElement), (13, C_NoLower), (14, C_NoUpper), (22, C_NoText), (23, C_NoCarry), (0, C_Rounds), (2, C_Table)] [(0, C_Rounds), (10, C_CarryError)] = true)
    (hCt : ctB K [(10, C_CarryError), (11, C_NoRounds), (12, C_NoElement), (13, C_NoLower), (14, C_NoUpper), (22, C_NoText), (23, C_NoCarry)] [(11, C_NoRounds), (13, C_NoLower), (14, C_NoUpper), (22, C_NoText)] = true)
    (mk_Rounds : PySem.W.makesIn K C_Rounds = true) (kc_Rounds : PySem.W.keepIn K (.ref C_Rounds) = true)
    (mk_Table : PySem.W.makesIn K C_Table = true) (kc_Table : PySem.W.keepIn K (.ref C_Table) = true)
    (am_Rounds_size : PySem.W.findIn K (.ref C_Rounds) "size" = some (some (.ref f_Group_size)))
    (oB : ([C_Rounds, C_Table] : List Addr).all (objB K) = true)
    : LawT P w K q 9 "_law_script" mg fa d_law := by
  have e := hfa.symm.trans (PySem.W.mg_of X G a_law)
  cases e
  letI tn : Tn := ⟨fun P => "", []⟩
  have m_CarryError : mg (cname 10) = some (.ref C_CarryError) := PySem.W.mg_of X G aC_CarryError
  have ca_CarryError : (⟨P, w, K, mg⟩ : GC).ca 10 = C_CarryError := ca_of (G := ⟨P, w, K, mg⟩) m_CarryError
  have m_NoRounds : mg (cname 11) = some (.ref C_NoRounds) := PySem.W.mg_of X G aC_NoRounds
  have ca_NoRounds : (⟨P, w, K, mg⟩ : GC).ca 11 = C_NoRounds := ca_of (G := ⟨P, w, K, mg⟩) m_NoRounds
  have m_NoElement : mg (cname 12) = some (.ref C_NoElement) := PySem.W.mg_of X G aC_NoElement
  have ca_NoElement : (⟨P, w, K, mg⟩ : GC).ca 12 = C_NoElement := ca_of (G := ⟨P, w, K, mg⟩) m_NoElement
  have m_NoLower : mg (cname 13) = some (.ref C_NoLower) := PySem.W.mg_of X G aC_NoLower
  have ca_NoLower : (⟨P, w, K, mg⟩ : GC).ca 13 = C_NoLower := ca_of (G := ⟨P, w, K, mg⟩) m_NoLower
  have m_NoUpper : mg (cname 14) = some (.ref C_NoUpper) := PySem.W.mg_of X G aC_NoUpper
  have ca_NoUpper : (⟨P, w, K, mg⟩ : GC).ca 14 = C_NoUpper := ca_of (G := ⟨P, w, K, mg⟩) m_NoUpper
  have m_NoText : mg (cname 22) = some (.ref C_NoText) := PySem.W.mg_of X G aC_NoText
  have ca_NoText : (⟨P, w, K, mg⟩ : GC).ca 22 = C_NoText := ca_of (G := ⟨P, w, K, mg⟩) m_NoText
  have m_NoCarry : mg (cname 23) = some (.ref C_NoCarry) := PySem.W.mg_of X G aC_NoCarry
  have ca_NoCarry : (⟨P, w, K, mg⟩ : GC).ca 23 = C_NoCarry := ca_of (G := ⟨P, w, K, mg⟩) m_NoCarry
  have m_Group : mg (cname 5) = some (.ref C_Group) := PySem.W.mg_of X G aC_Group
  have ca_Group : (⟨P, w, K, mg⟩ : GC).ca 5 = C_Group := ca_of (G := ⟨P, w, K, mg⟩) m_Group
  have m_Rounds : mg (cname 0) = some (.ref C_Rounds) := PySem.W.mg_of X G aC_Rounds
  have ca_Rounds : (⟨P, w, K, mg⟩ : GC).ca 0 = C_Rounds := ca_of (G := ⟨P, w, K, mg⟩) m_Rounds
  have m_Table : mg (cname 2) = some (.ref C_Table) := PySem.W.mg_of X G aC_Table
  have ca_Table : (⟨P, w, K, mg⟩ : GC).ca 2 = C_Table := ca_of (G := ⟨P, w, K, mg⟩) m_Table
  have F_q_rounds := fun_mk (st := s_q_rounds) l_q_rounds c_q_rounds k_q_rounds
  have B_q_rounds := F_q_rounds.binds (ps := ["_law_cell_here", "_law_most", "_law_greatest"]) fun _ _ _ _ _ _ us hl => match us, hl with | [_, _, _], _ => rfl
  have F_q_cell := fun_mk (st := s_q_cell) l_q_cell c_q_cell k_q_cell
  have B_q_cell := F_q_cell.binds (ps := ["_law_script", "_law_k"]) fun _ _ _ _ _ _ us hl => match us, hl with | [_, _], _ => rfl
  have F_q_rounds_text := fun_mk (st := s_q_rounds_text) l_q_rounds_text c_q_rounds_text k_q_rounds_text
  have B_q_rounds_text := F_q_rounds_text.binds (ps := ["_law_rounds_here"]) fun _ _ _ _ _ _ us hl => match us, hl with | [_], _ => rfl
  have F_q_members := fun_mk (st := s_q_members) l_q_members c_q_members k_q_members
  have B_q_members := F_q_members.binds (ps := ["_law_rounds_here"]) fun _ _ _ _ _ _ us hl => match us, hl with | [_], _ => rfl
  have F_q_element := fun_mk (st := s_q_element) l_q_element c_q_element k_q_element
  have B_q_element := F_q_element.binds (ps := ["_law_rounds_here", "_law_cell_here"]) fun _ _ _ _ _ _ us hl => match us, hl with | [_, _], _ => rfl
  have F_q_carries := fun_mk (st := s_q_carries) l_q_carries c_q_carries k_q_carries
  have B_q_carries := F_q_carries.binds (ps := ["_law_lower", "_law_upper", "_law_script", "_law_at"]) fun _ _ _ _ _ _ us hl => match us, hl with | [_, _, _, _], _ => rfl
  have F_q_text := fun_mk (st := s_q_text) l_q_text c_q_text k_q_text
  have B_q_text := F_q_text.binds (ps := ["_law_x"]) fun _ _ _ _ _ _ us hl => match us, hl with | [_], _ => rfl
  have F_q_texts := fun_mk (st := s_q_texts) l_q_texts c_q_texts k_q_texts
  have B_q_texts := F_q_texts.binds (ps := ["_law_script"]) fun _ _ _ _ _ _ us hl => match us, hl with | [_], _ => rfl
  have F_q_changed := fun_mk (st := s_q_changed) l_q_changed c_q_changed k_q_changed
  have B_q_changed := F_q_changed.binds (ps := ["_law_rows", "_law_cell_here"]) fun _ _ _ _ _ _ us hl => match us, hl with | [_, _], _ => rfl
  have F_Table_carries := fun_mk (st := s_Table_carries) l_Table_carries c_Table_carries k_Table_carries
  have B_Table_carries := F_Table_carries.binds (ps := ["self"]) fun _ _ _ _ _ _ us hl => match us, hl with | [_], _ => rfl
  have F_NoText_init := fun_mk (st := s_NoText_init) l_NoText_init c_NoText_init k_NoText_init
  have B_NoText_init := F_NoText_init.binds (ps := ["self", "at"]) fun _ _ _ _ _ _ us hl => match us, hl with | [_, _], _ => rfl
  have F_is_whole := fun_mk (st := s_is_whole) l_is_whole c_is_whole k_is_whole
  have B_is_whole := F_is_whole.binds (ps := ["thing"]) fun _ _ _ _ _ _ us hl => match us, hl with | [_], _ => rfl
  have F_are_rounds := fun_mk (st := s_are_rounds) l_are_rounds c_are_rounds k_are_rounds
  have B_are_rounds := F_are_rounds.binds (ps := ["thing"]) fun _ _ _ _ _ _ us hl => match us, hl with | [_], _ => rfl
  have F_Rounds_init := fun_mk (st := s_Rounds_init) l_Rounds_init c_Rounds_init k_Rounds_init
  have B_Rounds_init := F_Rounds_init.binds (ps := ["self", "rounds"]) fun _ _ _ _ _ _ us hl => match us, hl with | [_, _], _ => rfl
  have F_number_read := fun_mk (st := s_number_read) l_number_read c_number_read k_number_read
  have B_number_read := F_number_read.binds (ps := ["word"]) fun _ _ _ _ _ _ us hl => match us, hl with | [_], _ => rfl
  have F_rounds_or_none := fun_mk (st := s_rounds_or_none) l_rounds_or_none c_rounds_or_none k_rounds_or_none
  have B_rounds_or_none := F_rounds_or_none.binds (ps := ["text"]) fun _ _ _ _ _ _ us hl => match us, hl with | [_], _ => rfl
  have F_groups_read := fun_mk (st := s_groups_read) l_groups_read c_groups_read k_groups_read
  have B_groups_read := F_groups_read.binds (ps := ["rows"]) fun _ _ _ _ _ _ us hl => match us, hl with | [_], _ => rfl
  have F_Rounds_members := fun_mk (st := s_Rounds_members) l_Rounds_members c_Rounds_members k_Rounds_members
  have B_Rounds_members := F_Rounds_members.binds (ps := ["self"]) fun _ _ _ _ _ _ us hl => match us, hl with | [_], _ => rfl
  have F_Group_size := fun_mk (st := s_Group_size) l_Group_size c_Group_size k_Group_size
  have B_Group_size := F_Group_size.binds (ps := ["self"]) fun _ _ _ _ _ _ us hl => match us, hl with | [_], _ => rfl
  have F_Rounds_is_even := fun_mk (st := s_Rounds_is_even) l_Rounds_is_even c_Rounds_is_even k_Rounds_is_even
  have B_Rounds_is_even := F_Rounds_is_even.binds (ps := ["self"]) fun _ _ _ _ _ _ us hl => match us, hl with | [_], _ => rfl
  have F_look_at_groups := fun_mk (st := s_look_at_groups) l_look_at_groups c_look_at_groups k_look_at_groups
  have B_look_at_groups := F_look_at_groups.binds (ps := ["lower", "upper"]) fun _ _ _ _ _ _ us hl => match us, hl with | [_, _], _ => rfl
  have F_Rounds_has := fun_mk (st := s_Rounds_has) l_Rounds_has c_Rounds_has k_Rounds_has
  have B_Rounds_has := F_Rounds_has.binds (ps := ["self", "thing"]) fun _ _ _ _ _ _ us hl => match us, hl with | [_, _], _ => rfl
  have F_element_or_none := fun_mk (st := s_element_or_none) l_element_or_none c_element_or_none k_element_or_none
  have B_element_or_none := F_element_or_none.binds (ps := ["group", "text"]) fun _ _ _ _ _ _ us hl => match us, hl with | [_, _], _ => rfl
  have F_row_read := fun_mk (st := s_row_read) l_row_read c_row_read k_row_read
  have B_row_read := F_row_read.binds (ps := ["lower", "rows", "at", "many"]) fun _ _ _ _ _ _ us hl => match us, hl with | [_, _, _, _], _ => rfl
  have F_NoCarry_init := fun_mk (st := s_NoCarry_init) l_NoCarry_init c_NoCarry_init k_NoCarry_init
  have B_NoCarry_init := F_NoCarry_init.binds (ps := ["self", "x", "y"]) fun _ _ _ _ _ _ us hl => match us, hl with | [_, _, _], _ => rfl
  have F_Table_init := fun_mk (st := s_Table_init) l_Table_init c_Table_init k_Table_init
  have B_Table_init := F_Table_init.binds (ps := ["self", "lower", "upper", "carries"]) fun _ _ _ _ _ _ us hl => match us, hl with | [_, _, _, _], _ => rfl
  have F_read_table := fun_mk (st := s_read_table) l_read_table c_read_table k_read_table
  have B_read_table := F_read_table.binds (ps := ["rows"]) fun _ _ _ _ _ _ us hl => match us, hl with | [_], _ => rfl
  have F_q_told := fun_mk (st := s_q_told) l_q_told c_q_told k_q_told
  have B_q_told := F_q_told.binds (ps := ["_law_rows"]) fun _ _ _ _ _ _ us hl => match us, hl with | [_], _ => rfl
  have F_q_number_read := fun_mk (st := s_q_number_read) l_q_number_read c_q_number_read k_q_number_read
  have B_q_number_read := F_q_number_read.binds (ps := ["_law_word"]) fun _ _ _ _ _ _ us hl => match us, hl with | [_], _ => rfl
  have F_q_rounds_read := fun_mk (st := s_q_rounds_read) l_q_rounds_read c_q_rounds_read k_q_rounds_read
  have B_q_rounds_read := F_q_rounds_read.binds (ps := ["_law_text_here"]) fun _ _ _ _ _ _ us hl => match us, hl with | [_], _ => rfl
  have F_q_size := fun_mk (st := s_q_size) l_q_size c_q_size k_q_size
  have B_q_size := F_q_size.binds (ps := ["_law_rounds_here"]) fun _ _ _ _ _ _ us hl => match us, hl with | [_], _ => rfl
  have F_q_element_read := fun_mk (st := s_q_element_read) l_q_element_read c_q_element_read k_q_element_read
  have B_q_element_read := F_q_element_read.binds (ps := ["_law_rounds_here", "_law_text_here"]) fun _ _ _ _ _ _ us hl => match us, hl with | [_, _], _ => rfl
  have F_q_due := fun_mk (st := s_q_due) l_q_due c_q_due k_q_due
  have B_q_due := F_q_due.binds (ps := ["_law_rows"]) fun _ _ _ _ _ _ us hl => match us, hl with | [_], _ => rfl
  have F_law := fun_mk (st := s_law) l_law c_law k_law
  refine ⟨tn, PySem.W.fnOf "law" "law" (defArgs s_law) (defBody s_law) (defScope s_law) .none kV_law dc_law pm_law an_law cd_law ct_law, [], rfl, ?_, fun s u => .of_eq rfl, fun base _ _ hTB => ?_⟩
  · intro t ht
    cases ht
  have hca : ∀ p ∈ ([(10, C_CarryError), (11, C_NoRounds), (12, C_NoElement), (13, C_NoLower), (14, C_NoUpper), (22, C_NoText), (23, C_NoCarry), (5, C_Group), (0, C_Rounds), (2, C_Table)] : List (Nat × Addr)), (⟨P, w, K, mg⟩ : GC).ca p.1 = p.2 := by
    intro p hp
    simp only [List.mem_cons, List.not_mem_nil, or_false] at hp
    rcases hp with rfl | rfl | rfl | rfl | rfl | rfl | rfl | rfl | rfl | rfl
    · exact ca_CarryError
    · exact ca_NoRounds
    · exact ca_NoElement
    · exact ca_NoLower
    · exact ca_NoUpper
    · exact ca_NoText
    · exact ca_NoCarry
    · exact ca_Group
    · exact ca_Rounds
    · exact ca_Table
  have O_NoText : OexC K C_NoText := oexC_by xL_NoText rv_NoText ob_NoText
  have X_NoText : ExMA P w K mg base C_NoText 22 := ⟨m_NoText, O_NoText, f_NoText_init, _, _, exc1_ok (pn := "at") (fn := "at") F_NoText_init ⟨rfl, rfl, rfl, by decide +kernel, rfl, by decide +kernel, by decide +kernel⟩ O_NoText no_NoText_at (fun X hN hs => pss_one (ps_ost (pe_var (i := 0) (by rw [hN]; rfl) (by rw [hs]; exact Or.inl rfl)) (pe_var (i := 1) (by rw [hN]; rfl) (by rw [hs]; exact Or.inl rfl)))), a_NoText_init, tI_NoText, B_NoText_init⟩
  have O_NoCarry : OexC K C_NoCarry := oexC_by xL_NoCarry rv_NoCarry ob_NoCarry
  have X_NoCarry : ExMA P w K mg base C_NoCarry 23 := ⟨m_NoCarry, O_NoCarry, f_NoCarry_init, _, _, exc2_ok (pn := "x") (qn := "y") (fn := "x") (gn := "y") F_NoCarry_init ⟨rfl, rfl, rfl, by decide +kernel, rfl, by decide +kernel, by decide +kernel⟩ O_NoCarry no_NoCarry_x no_NoCarry_y (fun X hN hs => pss_cons (ps_ost (pe_var (i := 0) (by rw [hN]; rfl) (by rw [hs]; exact Or.inl rfl)) (pe_var (i := 1) (by rw [hN]; rfl) (by rw [hs]; exact Or.inl rfl))) (pss_one (ps_ost (pe_var (i := 0) (by rw [hN]; rfl) (by rw [hs]; exact Or.inl rfl)) (pe_var (i := 2) (by rw [hN]; rfl) (by rw [hs]; exact Or.inl rfl))))), a_NoCarry_init, tI_NoCarry, B_NoCarry_init⟩
  have T : Txt P w K mg base := {
      zz := trivial,
      n_range := PySem.W.mg_none_of X G z_range,
      n_min := PySem.W.mg_none_of X G z_min,
      n_tuple := PySem.W.mg_none_of X G z_tuple,
      n_len := PySem.W.mg_none_of X G z_len,
      n_sum := PySem.W.mg_none_of X G z_sum,
      n_str := PySem.W.mg_none_of X G z_str,
      n_enumerate := PySem.W.mg_none_of X G z_enumerate,
      n_list := PySem.W.mg_none_of X G z_list,
      n_dict := PySem.W.mg_none_of X G z_dict,
      f_kept := fldM_by (fun p hp => hca p (by simp only [List.mem_cons, List.not_mem_nil, or_false] at hp ⊢; rcases hp with rfl <;> simp)) fl_kept,
      c_NoText := cg_by m_NoText,
      e_NoText := by rw [ca_NoText]; exact X_NoText,
      c_Rounds := cg_by m_Rounds,
      n_isinstance := PySem.W.mg_none_of X G z_isinstance,
      g_MOST_ROUNDS := ⟨_, PySem.W.mg_of X G z_MOST_ROUNDS⟩,
      n_int := PySem.W.mg_none_of X G z_int,
      n_bool := PySem.W.mg_none_of X G z_bool,
      g_MOST_ELEMENTS := ⟨_, PySem.W.mg_of X G z_MOST_ELEMENTS⟩,
      c_NoRounds := cg_by m_NoRounds,
      e_NoRounds := by rw [ca_NoRounds]; exact exM0_by m_NoRounds ob_NoRounds,
      f_rounds := fldM_by (fun p hp => hca p (by simp only [List.mem_cons, List.not_mem_nil, or_false] at hp ⊢; rcases hp with rfl <;> simp)) fl_rounds,
      cl_Rounds_rounds := clM_by (fun p hp => hca p (by simp only [List.mem_cons, List.not_mem_nil, or_false] at hp ⊢; rcases hp with rfl <;> simp)) fl_rounds (by simp),
      g_MOST_FIGURES := ⟨_, PySem.W.mg_of X G z_MOST_FIGURES⟩,
      g_FIGURES := ⟨_, PySem.W.mg_of X G z_FIGURES⟩,
      q_Rounds := noEqM_by ca_Rounds nq_Rounds,
      g_MOST_LOWER := ⟨_, PySem.W.mg_of X G z_MOST_LOWER⟩,
      c_NoLower := cg_by m_NoLower,
      e_NoLower := by rw [ca_NoLower]; exact exM0_by m_NoLower ob_NoLower,
      g_MOST_UPPER := ⟨_, PySem.W.mg_of X G z_MOST_UPPER⟩,
      c_NoUpper := cg_by m_NoUpper,
      e_NoUpper := by rw [ca_NoUpper]; exact exM0_by m_NoUpper ob_NoUpper,
      n_zip := PySem.W.mg_none_of X G z_zip,
      c_Table := cg_by m_Table,
      f_lower := fldM_by (fun p hp => hca p (by simp only [List.mem_cons, List.not_mem_nil, or_false] at hp ⊢; rcases hp with rfl <;> simp)) fl_lower,
      cl_Table_lower := clM_by (fun p hp => hca p (by simp only [List.mem_cons, List.not_mem_nil, or_false] at hp ⊢; rcases hp with rfl <;> simp)) fl_lower (by simp),
      f_upper := fldM_by (fun p hp => hca p (by simp only [List.mem_cons, List.not_mem_nil, or_false] at hp ⊢; rcases hp with rfl <;> simp)) fl_upper,
      cl_Table_upper := clM_by (fun p hp => hca p (by simp only [List.mem_cons, List.not_mem_nil, or_false] at hp ⊢; rcases hp with rfl <;> simp)) fl_upper (by simp),
      cl_Table_kept := clM_by (fun p hp => hca p (by simp only [List.mem_cons, List.not_mem_nil, or_false] at hp ⊢; rcases hp with rfl <;> simp)) fl_kept (by simp),
      c_NoCarry := cg_by m_NoCarry,
      e_NoCarry := by rw [ca_NoCarry]; exact X_NoCarry,
      x_at := fldX_by (fun p hp => hca p (by simp only [List.mem_cons, List.not_mem_nil, or_false] at hp ⊢; rcases hp with rfl <;> simp)) xl_at,
      c_CarryError := cg_by m_CarryError,
      n_ValueError := PySem.W.mg_none_of X G z_ValueError,
      n_all := PySem.W.mg_none_of X G z_all,
      isM := isM_of (fun p hp => hca p (by simp only [List.mem_cons, List.not_mem_nil, or_false] at hp ⊢; rcases hp with rfl | rfl | rfl | rfl | rfl | rfl | rfl | rfl | rfl <;> simp)) (fun p hp => hca p (by simp only [List.mem_cons, List.not_mem_nil, or_false] at hp ⊢; rcases hp with rfl | rfl <;> simp)) hIs,
      ctM := ctM_of (fun p hp => hca p (by simp only [List.mem_cons, List.not_mem_nil, or_false] at hp ⊢; rcases hp with rfl | rfl | rfl | rfl | rfl | rfl | rfl <;> simp)) (fun p hp => hca p (by simp only [List.mem_cons, List.not_mem_nil, or_false] at hp ⊢; rcases hp with rfl | rfl | rfl | rfl <;> simp)) hCt }
  have G_q_rounds : FnOk P w K mg base (L2.CX P w) 1 f_q_rounds _ ["_law_cell_here", "_law_most", "_law_greatest"] (spM ⟨P, w, K, mg⟩ .S d_q_rounds) := fn_ok F_q_rounds sc_q_rounds (fun cdv A outer s H E hr => b_q_rounds T cdv A outer s H E hr)
  have M_q_rounds : FnM P w K mg base 1 "_law_rounds" .S d_q_rounds := ⟨f_q_rounds, _, _, G_q_rounds, PySem.W.mg_of X G a_q_rounds, k_q_rounds, B_q_rounds⟩
  have G_q_cell : FnOk P w K mg base (L2.CX P w) 1 f_q_cell _ ["_law_script", "_law_k"] (spM ⟨P, w, K, mg⟩ .S d_q_cell) := fn_ok F_q_cell sc_q_cell (fun cdv A outer s H E hr => b_q_cell T cdv A outer s H E hr)
  have M_q_cell : FnM P w K mg base 1 "_law_cell" .S d_q_cell := ⟨f_q_cell, _, _, G_q_cell, PySem.W.mg_of X G a_q_cell, k_q_cell, B_q_cell⟩
  have G_q_rounds_text : FnOk P w K mg base (L2.CX P w) 1 f_q_rounds_text _ ["_law_rounds_here"] (spM ⟨P, w, K, mg⟩ .S d_q_rounds_text) := fn_ok F_q_rounds_text sc_q_rounds_text (fun cdv A outer s H E hr => b_q_rounds_text T cdv A outer s H E hr)
  have M_q_rounds_text : FnM P w K mg base 1 "_law_rounds_text" .S d_q_rounds_text := ⟨f_q_rounds_text, _, _, G_q_rounds_text, PySem.W.mg_of X G a_q_rounds_text, k_q_rounds_text, B_q_rounds_text⟩
  have G_q_members : FnOk P w K mg base (L2.CX P w) 1 f_q_members _ ["_law_rounds_here"] (spM ⟨P, w, K, mg⟩ .S d_q_members) := fn_ok F_q_members sc_q_members (fun cdv A outer s H E hr => b_q_members T cdv A outer s H E hr)
  have M_q_members : FnM P w K mg base 1 "_law_members" .S d_q_members := ⟨f_q_members, _, _, G_q_members, PySem.W.mg_of X G a_q_members, k_q_members, B_q_members⟩
  have G_q_element : FnOk P w K mg base (L2.CX P w) 1 f_q_element _ ["_law_rounds_here", "_law_cell_here"] (spM ⟨P, w, K, mg⟩ .S d_q_element) := fn_ok F_q_element sc_q_element (fun cdv A outer s H E hr => b_q_element T cdv A outer s H E hr)
  have M_q_element : FnM P w K mg base 1 "_law_element" .S d_q_element := ⟨f_q_element, _, _, G_q_element, PySem.W.mg_of X G a_q_element, k_q_element, B_q_element⟩
  have G_q_carries : FnOk P w K mg base (L2.CX P w) 2 f_q_carries _ ["_law_lower", "_law_upper", "_law_script", "_law_at"] (spM ⟨P, w, K, mg⟩ .S d_q_carries) := fn_ok F_q_carries sc_q_carries (fun cdv A outer s H E hr => b_q_carries T M_q_members M_q_cell M_q_element cdv A outer s H E hr)
  have M_q_carries : FnM P w K mg base 2 "_law_carries" .S d_q_carries := ⟨f_q_carries, _, _, G_q_carries, PySem.W.mg_of X G a_q_carries, k_q_carries, B_q_carries⟩
  have G_q_text : FnOk P w K mg base (L2.CX P w) 1 f_q_text _ ["_law_x"] (spM ⟨P, w, K, mg⟩ .S d_q_text) := fn_ok F_q_text sc_q_text (fun cdv A outer s H E hr => b_q_text T cdv A outer s H E hr)
  have M_q_text : FnM P w K mg base 1 "_law_text" .S d_q_text := ⟨f_q_text, _, _, G_q_text, PySem.W.mg_of X G a_q_text, k_q_text, B_q_text⟩
  have G_q_texts : FnOk P w K mg base (L2.CX P w) 3 f_q_texts _ ["_law_script"] (spM ⟨P, w, K, mg⟩ .S d_q_texts) := fn_ok F_q_texts sc_q_texts (fun cdv A outer s H E hr => b_q_texts T M_q_rounds M_q_cell M_q_rounds_text M_q_members M_q_carries M_q_text cdv A outer s H E hr)
  have M_q_texts : FnM P w K mg base 3 "_law_texts" .S d_q_texts := ⟨f_q_texts, _, _, G_q_texts, PySem.W.mg_of X G a_q_texts, k_q_texts, B_q_texts⟩
  have G_q_changed : FnOk P w K mg base (L2.CX P w) 1 f_q_changed _ ["_law_rows", "_law_cell_here"] (spM ⟨P, w, K, mg⟩ .S d_q_changed) := fn_ok F_q_changed sc_q_changed (fun cdv A outer s H E hr => b_q_changed T cdv A outer s H E hr)
  have M_q_changed : FnM P w K mg base 1 "_law_changed" .S d_q_changed := ⟨f_q_changed, _, _, G_q_changed, PySem.W.mg_of X G a_q_changed, k_q_changed, B_q_changed⟩
  have G_Table_carries : FnOk P w K mg base (L2.CX P w) 1 f_Table_carries _ ["self"] (spM ⟨P, w, K, mg⟩ .S d_Table_carries) := fn_ok F_Table_carries sc_Table_carries (fun cdv A outer s H E hr => b_Table_carries T cdv A outer s H E hr)
  have MT_carries : ∀ c g, mt_carries c = some g → MtM P w K mg base 1 "carries" c .S g := by
    intro c g h
    unfold mt_carries at h
    split at h
    · rename_i hc; subst hc; cases h
      refine ⟨⟨f_Table_carries, _, _, G_Table_carries.mono (by decide), (by rw [ca_Table]; exact ⟨a_Table_carries, i_Table_carries, k_Table_carries⟩), B_Table_carries⟩, (by rw [ca_Table]; exact (objB_ok (List.all_eq_true.mp oB C_Table (by simp))).cl), by decide +kernel⟩
    · cases h
  have G_is_whole : FnOk P w K mg base (L2.CX P w) 1 f_is_whole _ ["thing"] (spM ⟨P, w, K, mg⟩ .S d_is_whole) := fn_ok F_is_whole sc_is_whole (fun cdv A outer s H E hr => b_is_whole T cdv A outer s H E hr)
  have M_is_whole : FnM P w K mg base 1 "is_whole" .S d_is_whole := ⟨f_is_whole, _, _, G_is_whole, PySem.W.mg_of X G a_is_whole, k_is_whole, B_is_whole⟩
  have G_are_rounds : FnOk P w K mg base (L2.CX P w) 2 f_are_rounds _ ["thing"] (spM ⟨P, w, K, mg⟩ .S d_are_rounds) := fn_ok F_are_rounds sc_are_rounds (fun cdv A outer s H E hr => b_are_rounds T M_is_whole cdv A outer s H E hr)
  have M_are_rounds : FnM P w K mg base 2 "are_rounds" .S d_are_rounds := ⟨f_are_rounds, _, _, G_are_rounds, PySem.W.mg_of X G a_are_rounds, k_are_rounds, B_are_rounds⟩
  have G_Rounds_init := fn_okI (P := P) (w := w) (mg := mg) (base := base) (c := 0) (g := e_Rounds_init) F_Rounds_init sc_Rounds_init (by decide) (fun cdv A outer s H E x hr => b_Rounds_init T M_are_rounds cdv A outer s H E x hr)
  have MK_Rounds : MkM P w K mg base 3 0 d_Rounds_init := ⟨f_Rounds_init, _, _, G_Rounds_init, (by rw [ca_Rounds]; exact ⟨mk_Rounds, a_Rounds_init, i_Rounds_init, kc_Rounds⟩), cg_by m_Rounds, B_Rounds_init⟩
  have G_number_read : FnOk P w K mg base (L2.CX P w) 1 f_number_read _ ["word"] (spM ⟨P, w, K, mg⟩ .S d_number_read) := fn_ok F_number_read sc_number_read (fun cdv A outer s H E hr => b_number_read T cdv A outer s H E hr)
  have M_number_read : FnM P w K mg base 1 "number_read" .S d_number_read := ⟨f_number_read, _, _, G_number_read, PySem.W.mg_of X G a_number_read, k_number_read, B_number_read⟩
  have G_rounds_or_none : FnOk P w K mg base (L2.CX P w) 5 f_rounds_or_none _ ["text"] (spM ⟨P, w, K, mg⟩ .S d_rounds_or_none) := fn_ok F_rounds_or_none sc_rounds_or_none (fun cdv A outer s H E hr => b_rounds_or_none T MK_Rounds M_number_read cdv A outer s H E hr)
  have M_rounds_or_none : FnM P w K mg base 5 "rounds_or_none" .S d_rounds_or_none := ⟨f_rounds_or_none, _, _, G_rounds_or_none, PySem.W.mg_of X G a_rounds_or_none, k_rounds_or_none, B_rounds_or_none⟩
  have G_groups_read : FnOk P w K mg base (L2.CX P w) 6 f_groups_read _ ["rows"] (spM ⟨P, w, K, mg⟩ .S d_groups_read) := fn_ok F_groups_read sc_groups_read (fun cdv A outer s H E hr => b_groups_read T M_rounds_or_none cdv A outer s H E hr)
  have M_groups_read : FnM P w K mg base 6 "groups_read" .S d_groups_read := ⟨f_groups_read, _, _, G_groups_read, PySem.W.mg_of X G a_groups_read, k_groups_read, B_groups_read⟩
  have G_Rounds_members : FnOk P w K mg base (L2.CX P w) 1 f_Rounds_members _ ["self"] (spM ⟨P, w, K, mg⟩ .S d_Rounds_members) := fn_ok F_Rounds_members sc_Rounds_members (fun cdv A outer s H E hr => b_Rounds_members T cdv A outer s H E hr)
  have MT_members : ∀ c g, mt_members c = some g → MtM P w K mg base 1 "members" c .S g := by
    intro c g h
    unfold mt_members at h
    split at h
    · rename_i hc; subst hc; cases h
      refine ⟨⟨f_Rounds_members, _, _, G_Rounds_members.mono (by decide), (by rw [ca_Rounds]; exact ⟨a_Rounds_members, i_Rounds_members, k_Rounds_members⟩), B_Rounds_members⟩, (by rw [ca_Rounds]; exact (objB_ok (List.all_eq_true.mp oB C_Rounds (by simp))).cl), by decide +kernel⟩
    · cases h
  have G_Group_size : FnOk P w K mg base (L2.CX P w) 2 f_Group_size _ ["self"] (spM ⟨P, w, K, mg⟩ .S d_Group_size) := fn_ok F_Group_size sc_Group_size (fun cdv A outer s H E hr => b_Group_size T MT_members cdv A outer s H E hr)
  have MT_size : ∀ c g, mt_size c = some g → MtM P w K mg base 2 "size" c .S g := by
    intro c g h
    unfold mt_size at h
    split at h
    · rename_i hc; subst hc; cases h
      refine ⟨⟨f_Group_size, _, _, G_Group_size.mono (by decide), (by rw [ca_Rounds]; exact ⟨am_Rounds_size, i_Group_size, k_Group_size⟩), B_Group_size⟩, (by rw [ca_Rounds]; exact (objB_ok (List.all_eq_true.mp oB C_Rounds (by simp))).cl), by decide +kernel⟩
    · cases h
  have G_Rounds_is_even : FnOk P w K mg base (L2.CX P w) 1 f_Rounds_is_even _ ["self"] (spM ⟨P, w, K, mg⟩ .S d_Rounds_is_even) := fn_ok F_Rounds_is_even sc_Rounds_is_even (fun cdv A outer s H E hr => b_Rounds_is_even T cdv A outer s H E hr)
  have MT_is_even : ∀ c g, mt_is_even c = some g → MtM P w K mg base 1 "is_even" c .S g := by
    intro c g h
    unfold mt_is_even at h
    split at h
    · rename_i hc; subst hc; cases h
      refine ⟨⟨f_Rounds_is_even, _, _, G_Rounds_is_even.mono (by decide), (by rw [ca_Rounds]; exact ⟨a_Rounds_is_even, i_Rounds_is_even, k_Rounds_is_even⟩), B_Rounds_is_even⟩, (by rw [ca_Rounds]; exact (objB_ok (List.all_eq_true.mp oB C_Rounds (by simp))).cl), by decide +kernel⟩
    · cases h
  have G_look_at_groups : FnOk P w K mg base (L2.CX P w) 3 f_look_at_groups _ ["lower", "upper"] (spM ⟨P, w, K, mg⟩ .S d_look_at_groups) := fn_ok F_look_at_groups sc_look_at_groups (fun cdv A outer s H E hr => b_look_at_groups T MT_size MT_is_even cdv A outer s H E hr)
  have M_look_at_groups : FnM P w K mg base 3 "look_at_groups" .S d_look_at_groups := ⟨f_look_at_groups, _, _, G_look_at_groups, PySem.W.mg_of X G a_look_at_groups, k_look_at_groups, B_look_at_groups⟩
  have G_Rounds_has : FnOk P w K mg base (L2.CX P w) 2 f_Rounds_has _ ["self", "thing"] (spM ⟨P, w, K, mg⟩ .S d_Rounds_has) := fn_ok F_Rounds_has sc_Rounds_has (fun cdv A outer s H E hr => b_Rounds_has T M_is_whole cdv A outer s H E hr)
  have MT_has : ∀ c g, mt_has c = some g → MtM P w K mg base 2 "has" c .S g := by
    intro c g h
    unfold mt_has at h
    split at h
    · rename_i hc; subst hc; cases h
      refine ⟨⟨f_Rounds_has, _, _, G_Rounds_has.mono (by decide), (by rw [ca_Rounds]; exact ⟨a_Rounds_has, i_Rounds_has, k_Rounds_has⟩), B_Rounds_has⟩, (by rw [ca_Rounds]; exact (objB_ok (List.all_eq_true.mp oB C_Rounds (by simp))).cl), by decide +kernel⟩
    · cases h
  have G_element_or_none : FnOk P w K mg base (L2.CX P w) 3 f_element_or_none _ ["group", "text"] (spM ⟨P, w, K, mg⟩ .S d_element_or_none) := fn_ok F_element_or_none sc_element_or_none (fun cdv A outer s H E hr => b_element_or_none T M_number_read MT_has cdv A outer s H E hr)
  have M_element_or_none : FnM P w K mg base 3 "element_or_none" .S d_element_or_none := ⟨f_element_or_none, _, _, G_element_or_none, PySem.W.mg_of X G a_element_or_none, k_element_or_none, B_element_or_none⟩
  have G_row_read : FnOk P w K mg base (L2.CX P w) 4 f_row_read _ ["lower", "rows", "at", "many"] (spM ⟨P, w, K, mg⟩ .S d_row_read) := fn_ok F_row_read sc_row_read (fun cdv A outer s H E hr => b_row_read T M_element_or_none cdv A outer s H E hr)
  have M_row_read : FnM P w K mg base 4 "row_read" .S d_row_read := ⟨f_row_read, _, _, G_row_read, PySem.W.mg_of X G a_row_read, k_row_read, B_row_read⟩
  have G_Table_init := fn_okI (P := P) (w := w) (mg := mg) (base := base) (c := 2) (g := e_Table_init) F_Table_init sc_Table_init (by decide) (fun cdv A outer s H E x hr => b_Table_init T M_look_at_groups MT_members MT_has cdv A outer s H E x hr)
  have MK_Table : MkM P w K mg base 4 2 d_Table_init := ⟨f_Table_init, _, _, G_Table_init, (by rw [ca_Table]; exact ⟨mk_Table, a_Table_init, i_Table_init, kc_Table⟩), cg_by m_Table, B_Table_init⟩
  have G_read_table : FnOk P w K mg base (L2.CX P w) 7 f_read_table _ ["rows"] (spM ⟨P, w, K, mg⟩ .S d_read_table) := fn_ok F_read_table sc_read_table (fun cdv A outer s H E hr => b_read_table T M_groups_read M_look_at_groups MT_members M_row_read MK_Table cdv A outer s H E hr)
  have M_read_table : FnM P w K mg base 7 "read_table" .S d_read_table := ⟨f_read_table, _, _, G_read_table, PySem.W.mg_of X G a_read_table, k_read_table, B_read_table⟩
  have G_q_told : FnOk P w K mg base (L2.CX P w) 8 f_q_told _ ["_law_rows"] (spM ⟨P, w, K, mg⟩ .S d_q_told) := fn_ok F_q_told sc_q_told (fun cdv A outer s H E hr => b_q_told T MT_carries M_read_table cdv A outer s H E hr)
  have M_q_told : FnM P w K mg base 8 "_law_told" .S d_q_told := ⟨f_q_told, _, _, G_q_told, PySem.W.mg_of X G a_q_told, k_q_told, B_q_told⟩
  have G_q_number_read : FnOk P w K mg base (L2.CX P w) 1 f_q_number_read _ ["_law_word"] (spM ⟨P, w, K, mg⟩ .S d_q_number_read) := fn_ok F_q_number_read sc_q_number_read (fun cdv A outer s H E hr => b_q_number_read T cdv A outer s H E hr)
  have M_q_number_read : FnM P w K mg base 1 "_law_number_read" .S d_q_number_read := ⟨f_q_number_read, _, _, G_q_number_read, PySem.W.mg_of X G a_q_number_read, k_q_number_read, B_q_number_read⟩
  have G_q_rounds_read : FnOk P w K mg base (L2.CX P w) 2 f_q_rounds_read _ ["_law_text_here"] (spM ⟨P, w, K, mg⟩ .S d_q_rounds_read) := fn_ok F_q_rounds_read sc_q_rounds_read (fun cdv A outer s H E hr => b_q_rounds_read T M_q_number_read cdv A outer s H E hr)
  have M_q_rounds_read : FnM P w K mg base 2 "_law_rounds_read" .S d_q_rounds_read := ⟨f_q_rounds_read, _, _, G_q_rounds_read, PySem.W.mg_of X G a_q_rounds_read, k_q_rounds_read, B_q_rounds_read⟩
  have G_q_size : FnOk P w K mg base (L2.CX P w) 1 f_q_size _ ["_law_rounds_here"] (spM ⟨P, w, K, mg⟩ .S d_q_size) := fn_ok F_q_size sc_q_size (fun cdv A outer s H E hr => b_q_size T cdv A outer s H E hr)
  have M_q_size : FnM P w K mg base 1 "_law_size" .S d_q_size := ⟨f_q_size, _, _, G_q_size, PySem.W.mg_of X G a_q_size, k_q_size, B_q_size⟩
  have G_q_element_read : FnOk P w K mg base (L2.CX P w) 2 f_q_element_read _ ["_law_rounds_here", "_law_text_here"] (spM ⟨P, w, K, mg⟩ .S d_q_element_read) := fn_ok F_q_element_read sc_q_element_read (fun cdv A outer s H E hr => b_q_element_read T M_q_number_read cdv A outer s H E hr)
  have M_q_element_read : FnM P w K mg base 2 "_law_element_read" .S d_q_element_read := ⟨f_q_element_read, _, _, G_q_element_read, PySem.W.mg_of X G a_q_element_read, k_q_element_read, B_q_element_read⟩
  have G_q_due : FnOk P w K mg base (L2.CX P w) 3 f_q_due _ ["_law_rows"] (spM ⟨P, w, K, mg⟩ .S d_q_due) := fn_ok F_q_due sc_q_due (fun cdv A outer s H E hr => b_q_due T M_q_rounds_read M_q_size M_q_members M_q_element_read cdv A outer s H E hr)
  have M_q_due : FnM P w K mg base 3 "_law_due" .S d_q_due := ⟨f_q_due, _, _, G_q_due, PySem.W.mg_of X G a_q_due, k_q_due, B_q_due⟩
  have G_law : FnOk P w K mg base (L2.CX P w) 9 fa _ ["_law_script"] (spM ⟨P, w, K, mg⟩ .S d_law) := fn_ok F_law sc_law (fun cdv A outer s H E hr => b_law T M_q_texts M_q_cell M_q_changed M_q_told M_q_due cdv A outer s H E hr)
  exact G_law
instance tnD : Tn := ⟨fun _ => "", []⟩
end Mir.K13
namespace Mir.K13
open PySem PySem.Spec PyProof.Rows L2
set_option maxHeartbeats 1000000
/-- what a cell comes to -/
def cellV (ns : List Int) (k : Int) : Int :=
  let here := if 0 < ns.length then ns.getD (k % ns.length).toNat 0 else 0
  if ns.sum % 2 = 1 then here else
    let first := (here % 1000000007 + 7919 * k + 11) * 48271 % 2147483647
    (first * 69621 + 17 * k) % 2147483629 * 2147483647 + first * 16807 % 2147483647
theorem cell_ok (ns : List Int) (k : Int) (h0 : 0 ≤ k) (h1 : k ≤ 10 ^ 30) : d_q_cell [.scr ns, .int k] = .ok (.int (cellV ns k)) := by
  have e1 : e_q_cell (startD N_q_cell.length [.scr ns, .int k]) = .rt (.int (cellV ns k)) := by
    have st : startD N_q_cell.length [.scr ns, .int k] = [.sh (.scr ns), .sh (.int k), .un, .un] := rfl
    rw [st]
    unfold e_q_cell cellV
    by_cases hn : 0 < ns.length
    · have hm := Int.emod_nonneg k (b := (ns.length : Int)) (by omega)
      have hm2 := Int.emod_lt_of_pos k (b := (ns.length : Int)) (by omega)
      have hix : ixD (.scr ns) (.int (k % ns.length)) = .ok (.int (ns.getD (k % ns.length).toNat 0)) := by
        rw [ixD_scr, atI_getD hm hm2]
      generalize hc : ns.getD (k % ns.length).toNat 0 = c at hix
      have b1 := bits_60 (i := c % 1000000007 + 7919 * k + 11) (by omega) (by omega)
      have b2 := bits_60 (i := 48271) (by omega) (by omega)
      have b3 := bits_60 (i := k) (by omega) (by omega)
      have b4 := bits_60 (i := 7919) (by omega) (by omega)
      have b5 := bits_60 (i := (c % 1000000007 + 7919 * k + 11) * 48271 % 2147483647) (by omega) (by omega)
      have b6 := bits_60 (i := 69621) (by omega) (by omega)
      have b7 := bits_60 (i := 17) (by omega) (by omega)
      have b8 := bits_60 (i := ((c % 1000000007 + 7919 * k + 11) * 48271 % 2147483647 * 69621 + 17 * k) % 2147483629) (by omega) (by omega)
      have b9 := bits_60 (i := 2147483647) (by omega) (by omega)
      have b10 := bits_60 (i := 16807) (by omega) (by omega)
      by_cases hs : ns.sum % 2 = 1
      · simp [hn, hs, hix, modD_ok]
      · simp [hn, hs, hix, modD_ok, mulD_ok, b1, b2, b3, b4, b5, b6, b7, b8, b9, b10]
    · have b1 := bits_60 (i := 0 % 1000000007 + 7919 * k + 11) (by omega) (by omega)
      have b2 := bits_60 (i := 48271) (by omega) (by omega)
      have b3 := bits_60 (i := k) (by omega) (by omega)
      have b4 := bits_60 (i := 7919) (by omega) (by omega)
      have b5 := bits_60 (i := (0 % 1000000007 + 7919 * k + 11) * 48271 % 2147483647) (by omega) (by omega)
      have b6 := bits_60 (i := 69621) (by omega) (by omega)
      have b7 := bits_60 (i := 17) (by omega) (by omega)
      have b8 := bits_60 (i := ((0 % 1000000007 + 7919 * k + 11) * 48271 % 2147483647 * 69621 + 17 * k) % 2147483629) (by omega) (by omega)
      have b9 := bits_60 (i := 2147483647) (by omega) (by omega)
      have b10 := bits_60 (i := 16807) (by omega) (by omega)
      have hl : ns.length = 0 := by omega
      have e0 : ns = [] := List.length_eq_zero_iff.mp hl
      subst e0
      simp at b1 b5 b8
      simp [modD_ok, mulD_ok, b1, b2, b3, b4, b5, b6, b7, b8, b9, b10]
  exact runD_rt rfl e1
theorem is_whole_int (i : Int) : d_is_whole [.int i] = .ok (.bl true) := by kernel_rfl
theorem has_turn (rs x : List Int) (i n : Int) (h0 : 0 ≤ i) (h1 : i < n) (a b : Slot) : Rounds_has_l1 (.tup [.int i, .int n]) [.sh (gR rs), .sh (tuI x), a, b] = .nx [.sh (gR rs), .sh (tuI x), .sh (.int i), .sh (.int n)] := by
  have z1 : ¬ i < 0 := by omega
  have z2 : ¬ n ≤ i := by omega
  simp [Rounds_has_l1, is_whole_int, z1, z2]
theorem has_ok {rs x : List Int} (h : OkE rs x) : d_Rounds_has [gR rs, tuI x] = .ok (.bl true) := by
  refine runD_rt rfl ?_
  have st : startD N_Rounds_has.length [gR rs, tuI x] = [.sh (gR rs), .sh (tuI x), .un, .un] := rfl
  rw [st]
  have z : zip2D [tuI x, tuI rs] = .ok (zipL2 (x.map .int) (rs.map .int)) := rfl
  obtain ⟨r', loop, a, b, rfl⟩ := forD_all (f := Rounds_has_l1) (ds := zipL2 (x.map .int) (rs.map .int)) (fun r => ∃ a b, r = [.sh (gR rs), .sh (tuI x), a, b]) (fun d hd r ⟨a, b, e⟩ => by
    obtain ⟨p, hp, rfl⟩ := mem_zip2 hd
    obtain ⟨h1, h2⟩ := h.at_ p hp
    subst e
    exact ⟨_, has_turn rs x p.1 p.2 h1 h2 a b, _, _, rfl⟩) (r := [.sh (gR rs), .sh (tuI x), .un, .un]) ⟨.un, .un, rfl⟩
  unfold e_Rounds_has
  simp [is_tuple, fld_rounds, h.len, z, loop]
theorem rounds_turn (src : D) (m n : Int) (h2 : 2 ≤ n) (h144 : n ≤ 144) (a : Slot) : are_rounds_l1 (.int n) [.sh src, .sh (.int m), a] = .nx [.sh src, .sh (.int (m * n)), .sh (.int n)] := by
  have z1 : ¬ n < 2 := by omega
  have z2 : ¬ 144 < n := by omega
  have z3 : mulD (.int m) (.int n) = .ok (.int (m * n)) := mulD_small (.inr ⟨by omega, by omega⟩)
  simp [are_rounds_l1, is_whole_int, z1, z2, z3]
theorem rounds_ok {rs : List Int} (h : OkG rs) (src : D) (hs : src = tuI rs ∨ src = liI rs) : d_are_rounds [src] = .ok (.bl true) := by
  refine runD_rt rfl ?_
  have st : startD N_are_rounds.length [src] = [.sh src, .un, .un] := rfl
  rw [st]
  have hi := is_seq src rs hs isC isU
  have hl : lenD src = .ok (.int rs.length) := by rcases hs with rfl | rfl <;> simp
  have it : itemsD src = .ok (rs.map .int) := by rcases hs with rfl | rfl <;> rfl
  have l7 := h.ok.len
  obtain ⟨r', loop, a, rfl⟩ := forD_ix (f := are_rounds_l1) (ds := rs.map .int) (fun i r => ∃ a, r = [.sh src, .sh (.int ((rs.take i).foldl (· * ·) 1)), a]) (fun i d hd r ⟨a, e⟩ => by
    rw [List.getElem?_map, Option.map_eq_some_iff] at hd
    obtain ⟨n, hn, rfl⟩ := hd
    subst e
    have hm := List.mem_of_getElem? hn
    refine ⟨_, rounds_turn src _ n (h.ok.two n hm) (h.most n hm) a, .sh (.int n), ?_⟩
    rw [take_more hn, List.foldl_append]
    rfl) (r := [.sh src, .sh (.int 1), .un]) ⟨.un, rfl⟩
  rw [List.length_map, List.take_length] at loop
  have z : ¬ (7 : Int) < rs.length := by omega
  unfold e_are_rounds
  simp [-itemsD, hi, hl, it, z, loop, h.prod, lim]
theorem init_ok {rs : List Int} (h : OkG rs) (src : D) (hs : src = tuI rs ∨ src = liI rs) : d_Rounds_init [src] = .ok (gR rs) := by
  have e1 : e_Rounds_init (startI N_Rounds_init.length 0 [src]) = .nx [.ow .flat (gR rs), .sh src] := by
    have st : startI N_Rounds_init.length 0 [src] = [.ow .flat (.obj 0 []), .sh src] := rfl
    rw [st]
    have tu : tupleD src = .ok (tuI rs) := by rcases hs with rfl | rfl <;> rfl
    unfold e_Rounds_init
    simp only [getS_succ, getS0, ok_bind, one, rounds_ok h src hs, asB_bl, lift_ok, Bool.not_true, Bool.false_eq_true, if_false, nx_seq, tu]
    rfl
  exact runI_nx rfl e1
theorem q_rounds_ok {c most gr : Int} (hg : 2 ≤ gr) (h1 : 1 ≤ most) (h2 : most ≤ 144) : ∃ rs, OkM most rs ∧ d_q_rounds [.int c, .int most, .int gr] = .ok (tuI rs) := by
  obtain ⟨r', loop, c', f, left, s, rfl, v⟩ := forD_ix (f := q_rounds_l1) (ds := rangeL 0 3) (fun i r => ∃ (c' : Int) (f : List Int) (left : Int) (s : Slot), r = [.sh (.int c'), .sh (.int most), .sh (.int gr), .ow .flat (.lst (f.map .int)), .sh (.int left), s] ∧ RIM most i f left) (fun i d hd r ⟨c', f, left, s, e, v⟩ => by
    subst e
    have hi : i < 3 := by
      have := (List.getElem?_eq_some_iff.mp hd).1
      rw [rangeL_len] at this
      exact this
    have d101 : divD (.int c') (.int 101) = .ok (.int (c' / 101)) := divD_ok (by omega) (bits_60 (by omega) (by omega))
    have d5 : divD (.int c') (.int 5) = .ok (.int (c' / 5)) := divD_ok (by omega) (bits_60 (by omega) (by omega))
    by_cases h : 1 < left ∧ 0 < c' % 5
    · obtain ⟨h1, h2⟩ := h
      obtain ⟨mn, hmn, m2, m3⟩ : ∃ mn, minD (.int left) (.int gr) = .ok (.int mn) ∧ 2 ≤ mn ∧ mn ≤ left := by
        refine ⟨if gr < left then gr else left, rfl, ?_, ?_⟩ <;> split <;> omega
      have md := modD_ok (i := c' / 5) (j := mn - 1) (by omega)
      have a1 := Int.emod_nonneg (c' / 5) (b := mn - 1) (by omega)
      have a2 := Int.emod_lt_of_pos (c' / 5) (b := mn - 1) (by omega)
      generalize hn : c' / 5 % (mn - 1) = n at md a1 a2
      have ll : f.length < lim := by have := v.len; unfold lim; omega
      have hle := v.left_le
      have dl : divD (.int left) (.int (2 + n)) = .ok (.int (left / (2 + n))) := divD_ok (by omega) (bits_60 (by omega) (by omega))
      refine ⟨[.sh (.int (c' / 101)), .sh (.int most), .sh (.int gr), .ow .flat (.lst ((f ++ [2 + n]).map .int)), .sh (.int (left / (2 + n))), .sh d], ?_, c' / 101, f ++ [2 + n], left / (2 + n), _, rfl, v.step (by omega) (by omega)⟩
      simp [-ixD_lst, q_rounds_l1, appG, ownL, modD_ok, h1, h2, d101, d5, hmn, md, ll, ixD_last, dl]
    · refine ⟨[.sh (.int (c' / 101)), .sh (.int most), .sh (.int gr), .ow .flat (.lst (f.map .int)), .sh (.int left), .sh d], ?_, c' / 101, f, left, _, rfl, v.mono⟩
      by_cases h1 : 1 < left
      · have h2 : ¬ 0 < c' % 5 := fun z => h ⟨h1, z⟩
        simp [q_rounds_l1, modD_ok, h1, h2, d101]
      · simp [q_rounds_l1, modD_ok, h1, d101]) (r := [.sh (.int c), .sh (.int most), .sh (.int gr), .ow .flat (.lst []), .sh (.int most), .un]) ⟨c, [], most, .un, rfl, by simp, by simp, by simp, by omega, by simp⟩
  have one := v.one
  have pr := v.prod
  have p := foldl_pos f 1 (by omega) v.two
  have q : f.foldl (· * ·) 1 * 1 ≤ f.foldl (· * ·) 1 * left := Int.mul_le_mul_of_nonneg_left one (by omega)
  have l3 : f.length ≤ 3 := by have := v.len; rw [rangeL_len] at this; exact this
  refine ⟨f, ⟨⟨⟨v.two, by omega⟩, fun n hn => by have := v.le n hn; omega, by omega⟩, by omega, l3⟩, runD_rt rfl ?_⟩
  simp only [startD, N_q_rounds, List.length_cons, List.length_nil, List.map_cons, List.map_nil, Nat.reduceAdd, Nat.reduceSub, Nat.zero_add, List.replicate, List.cons_append, List.nil_append]
  have r3 : rng1 [.int 3] = .ok (rangeL 0 3) := rng1_ok (by omega) (by omega)
  simp [e_q_rounds, r3, loop]
theorem q_element_ok {rs : List Int} {c : Int} (h : OkR rs) (hb : ∀ n ∈ rs, n ≤ 144) : ∃ x, OkE rs x ∧ d_q_element [tuI rs, .int c] = .ok (tuI x) := by
  have l7 := h.len
  obtain ⟨r', loop, c', x, s, rfl, hx⟩ := forD_ix (f := q_element_l1) (ds := rs.map .int) (fun i r => ∃ (c' : Int) (x : List Int) (s : Slot), r = [.sh (tuI rs), .sh (.int c'), .ow .flat (.lst (x.map .int)), s] ∧ x.length = i ∧ ∀ j, j < i → 0 ≤ x.getD j 0 ∧ x.getD j 0 < rs.getD j 0) (fun i d hd r ⟨c', x, s, e, hl, hx⟩ => by
    rw [List.getElem?_map, Option.map_eq_some_iff] at hd
    obtain ⟨n, hn, rfl⟩ := hd
    have hm := List.mem_of_getElem? hn
    have n2 := h.two n hm
    have n3 := hb n hm
    subst e
    have hi : i < rs.length := (List.getElem?_eq_some_iff.mp hn).1
    have en : rs.getD i 0 = n := by rw [List.getD_eq_getElem?_getD, hn]; rfl
    have md := modD_ok (i := c') (j := n) (by omega)
    have dv := divD_ok (i := c') (j := n) (by omega) (bits_60 (by omega) (by omega))
    have ll : x.length < lim := by unfold lim; omega
    refine ⟨[.sh (tuI rs), .sh (.int (c' / n)), .ow .flat (.lst ((x ++ [c' % n]).map .int)), .sh (.int n)], ?_, c' / n, x ++ [c' % n], _, rfl, by simp [hl], fun j hj => ?_⟩
    · simp [q_element_l1, appG, ownL, md, dv, ll]
    · by_cases e : j < i
      · have := hx j e
        rw [List.getD_eq_getElem?_getD, List.getElem?_append_left (by omega), ← List.getD_eq_getElem?_getD]
        exact this
      · have e2 : j = i := by omega
        subst e2
        have e3 : (x ++ [c' % n]).getD j 0 = c' % n := by rw [List.getD_eq_getElem?_getD, List.getElem?_append_right (by omega)]; simp [hl]
        rw [e3, en]
        exact ⟨Int.emod_nonneg _ (by omega), Int.emod_lt_of_pos _ (by omega)⟩) (r := [.sh (tuI rs), .sh (.int c), .ow .flat (.lst []), .un]) ⟨c, [], .un, rfl, rfl, fun j hj => by omega⟩
  rw [List.length_map] at hx
  refine ⟨x, ⟨hx.1, fun p hp => ?_⟩, runD_rt rfl ?_⟩
  · obtain ⟨i, hi⟩ := List.getElem?_of_mem hp
    obtain ⟨g1, g2⟩ := List.getElem?_zip_eq_some.mp hi
    have hi' : i < rs.length := (List.getElem?_eq_some_iff.mp g2).1
    have := hx.2 i hi'
    rw [List.getD_eq_getElem?_getD, g1, List.getD_eq_getElem?_getD, g2] at this
    exact this
  · simp only [startD, N_q_element, List.length_cons, List.length_nil, List.map_cons, List.map_nil, Nat.reduceAdd, Nat.reduceSub, Nat.zero_add, List.replicate, List.cons_append, List.nil_append]
    simp [e_q_element, loop]
theorem is_whole_any {d : D} (h : plainD d = true) : d_is_whole [d] = .ok (.bl (isW d)) := by
  cases d <;> first | (cases h; done) | kernel_rfl
theorem has_any {rs : List Int} {d : D} (h : plainT d = true) : d_Rounds_has [gR rs, d] = .ok (.bl (elB rs d)) := by
  refine runD_rt rfl ?_
  simp only [startD, N_Rounds_has, List.length_cons, List.length_nil, List.map_cons, List.map_nil, Nat.reduceAdd, Nat.reduceSub, Nat.zero_add, List.replicate, List.cons_append, List.nil_append]
  have it := is_tuple_any h isC isU
  cases d with
  | tup ds =>
    have h : ds.all plainD = true := h
    simp only at it
    have z : zip2D [.tup ds, tuI rs] = .ok (zipL2 ds (rs.map .int)) := rfl
    by_cases hl : ds.length = rs.length
    · have loop := forD_any (f := Rounds_has_l1) (fun r => ∃ a b, r = [.sh (gR rs), .sh (.tup ds), a, b]) (fun e => match e with
        | .tup [a, .int i] => !inB a i
        | _ => false) (.bl false) (ds := zipL2 ds (rs.map .int)) (r := [.sh (gR rs), .sh (.tup ds), .un, .un]) (fun e he r ⟨a, b, er⟩ => by
          subst er
          obtain ⟨p, hp, rfl⟩ := mem_zip_any he
          have pl : plainD p.1 = true := List.all_eq_true.mp h _ (List.of_mem_zip hp).1
          have w := is_whole_any pl
          cases hb : inB p.1 p.2 with
          | true =>
            rw [if_neg (by simp [hb])]
            obtain ⟨i, m⟩ := p
            cases i with
            | int i =>
              have hb' : 0 ≤ i ∧ i < m := by simpa [inB] using hb
              have w2 : d_is_whole [D.int i] = .ok (.bl true) := w
              refine ⟨_, ?_, .sh (.int i), .sh (.int m), rfl⟩
              have z1 : ¬ i < 0 := by omega
              have z2 : ¬ m ≤ i := by omega
              simp [Rounds_has_l1, w2, z1, z2]
            | _ => simp [inB] at hb
          | false =>
            rw [if_pos (by simp [hb])]
            obtain ⟨i, m⟩ := p
            cases i with
            | int i =>
              have w2 : d_is_whole [D.int i] = .ok (.bl true) := w
              have hb' : i < 0 ∨ m ≤ i := by
                have : ¬ (0 ≤ i ∧ i < m) := by simpa [inB] using hb
                omega
              by_cases z1 : i < 0
              · simp [Rounds_has_l1, w2, z1]
              · have z2 : m ≤ i := by omega
                simp [Rounds_has_l1, w2, z1, z2]
            | _ =>
              simp only [isW] at w
              simp [Rounds_has_l1, w]) ⟨_, _, rfl⟩
      rw [any_zip (fun a i => !inB a i) _ fun _ _ => rfl] at loop
      have hb : elB rs (.tup ds) = !((ds.zip rs).any fun p => !inB p.1 p.2) := by
        show (decide (ds.length = rs.length) && (ds.zip rs).all fun p => inB p.1 p.2) = _
        rw [decide_eq_true hl, Bool.true_and, List.all_eq_not_any_not]
      rw [hb]
      cases ha : (ds.zip rs).any fun p => !inB p.1 p.2 with
      | true =>
        rw [ha, if_pos rfl] at loop
        simp [e_Rounds_has, it, fld_rounds, hl, z, loop]
      | false =>
        rw [ha, if_neg (by simp)] at loop
        obtain ⟨r', e, _⟩ := loop
        simp [e_Rounds_has, it, fld_rounds, hl, z, e]
    · have hb : elB rs (.tup ds) = false := by
        show (decide (ds.length = rs.length) && (ds.zip rs).all fun p => inB p.1 p.2) = _
        rw [decide_eq_false hl, Bool.false_and]
      have hl' : ¬ ((ds.length : Int) = rs.length) := by omega
      simp [e_Rounds_has, it, fld_rounds, hl, hl', hb]
  | _ => first | (cases h; done) | (simp only at it; simp [e_Rounds_has, it, elB])
theorem members_ok {rs : List Int} (h : OkR rs) (hb : ∀ n ∈ rs, n ≤ 144) (hp : rs.foldl (· * ·) 1 ≤ 144) : d_Rounds_members [gR rs] = .ok (.lst ((mems rs).map tuI)) := by
  have l7 := h.len
  -- one element made longer
  have c1 : ∀ (n : Int) (x : List Int) (s1 s2 s3 s4 : Slot), 2 ≤ n → n ≤ 144 → x.length < 1000 → Rounds_members_c1 [s1, s2, .sh (.int n), s3, .sh (tuI x), s4] (rangeL 0 n.toNat) = .ok (((List.range n.toNat).map fun i : Nat => x ++ [(i : Int)]).map tuI) := fun n x s1 s2 s3 s4 h2 h3 hx => by
    unfold Rounds_members_c1
    rw [List.map_map]
    refine lcD_range _ fun k hk => ⟨rfl, ?_⟩
    have hl : x.length + 1 ≤ lim := by unfold lim; omega
    have l1 : 1 ≤ lim := by decide
    simp [wipeR, hl, l1]
  have bound : ∀ (l : List Int) (S : List (List Int)), (∀ n ∈ l, 2 ≤ n) → S.length ≤ (l.foldl memsStep S).length := fun l => by
    induction l with
    | nil => intro S _; exact Nat.le_refl _
    | cons n l ih =>
      intro S hl
      have := ih (memsStep S n) fun m hm => hl m (List.mem_cons_of_mem _ hm)
      have hn := hl n List.mem_cons_self
      rw [step_len] at this
      have : S.length * 1 ≤ S.length * n.toNat := Nat.mul_le_mul_left _ (by omega)
      rw [List.foldl_cons]
      omega
  have tot : (mems rs).length ≤ 144 := by
    have := mems_len (rs := rs) fun n hn => by have := h.two n hn; omega
    omega
  obtain ⟨r', loop, s2, s3, s4, rfl⟩ := forD_row (pre0 := rs) (f := Rounds_members_l3) D.int (fun pre r => ∃ s2 s3 s4, r = [.sh (gR rs), .sh (.lst ((mems pre).map tuI)), s2, s3, s4, .un]) (ds := rs) (pre := []) (r := [.sh (gR rs), .sh (.lst [.tup []]), .un, .un, .un, .un]) (fun pre n hpre r ⟨s2, s3, s4, e⟩ => by
    subst e
    obtain ⟨post, hpost⟩ := hpre
    have hn : n ∈ rs := by rw [← hpost]; simp
    have n2 := h.two n hn
    have n3 := hb n hn
    have lenp : pre.length < 1000 := by
      have := congrArg List.length hpost
      simp at this
      omega
    have elen : ∀ x ∈ mems pre, x.length < 1000 := fun x hx => by
      have := (mem_mems.mp hx).len
      omega
    have small : (memsStep (mems pre) n).length ≤ 144 := by
      have e : mems rs = post.foldl memsStep (memsStep (mems pre) n) := by
        unfold mems
        rw [← hpost, List.foldl_append, List.foldl_append]
        rfl
      have := bound post (memsStep (mems pre) n) fun m hm => h.two m (by rw [← hpost]; simp [hm])
      rw [← e] at this
      omega
    have r1 : rng1 [.int n] = .ok (rangeL 0 n.toNat) := rng1_ok (by omega) (by omega)
    obtain ⟨r2, in2, t4, rfl⟩ := forD_row (pre0 := mems pre) (f := Rounds_members_l2) tuI (fun done r => ∃ t4, r = [.sh (gR rs), .sh (.lst ((mems pre).map tuI)), .sh (.int n), .ow .flat (.lst ((memsStep done n).map tuI)), t4, .un]) (ds := mems pre) (pre := []) (r := [.sh (gR rs), .sh (.lst ((mems pre).map tuI)), .sh (.int n), .ow .flat (.lst []), s4, .un]) (fun done x hd r ⟨t4, e⟩ => by
      subst e
      obtain ⟨rest, hr⟩ := hd
      have hx : x ∈ mems pre := by rw [← hr]; simp
      have eq : memsStep (done ++ [x]) n = memsStep done n ++ (List.range n.toNat).map fun i : Nat => x ++ [(i : Int)] := by
        unfold memsStep
        simp
      have le : (memsStep done n).length + ((List.range n.toNat).map fun i : Nat => x ++ [(i : Int)]).length ≤ lim := by
        rw [← List.length_append, ← eq, step_len]
        rw [step_len, ← hr] at small
        simp at small
        have : (done ++ [x]).length * n.toNat ≤ (done.length + (rest.length + 1)) * n.toNat := Nat.mul_le_mul_right _ (by simp)
        unfold lim
        omega
      have q := c1 n x (.sh (gR rs)) (.sh (.lst ((mems pre).map tuI))) (.ow .flat (.lst ((memsStep done n).map tuI))) .un n2 n3 (elen x hx)
      have l0 : ((List.range n.toNat).map fun i : Nat => x ++ [(i : Int)]).length ≤ lim := by omega
      generalize ((List.range n.toNat).map fun i : Nat => x ++ [(i : Int)]) = L at *
      refine ⟨_, ?_, .sh (tuI x), rfl⟩
      rw [eq]
      simp [Rounds_members_l2, extG, ownL, r1, q, le, l0]) rfl ⟨_, rfl⟩
    refine ⟨[.sh (gR rs), .sh (.lst ((mems (pre ++ [n])).map tuI)), .sh (.int n), .sh (.lst ((memsStep (mems pre) n).map tuI)), t4, .un], ?_, _, _, _, rfl⟩
    have eq : mems (pre ++ [n]) = memsStep (mems pre) n := by unfold mems; rw [List.foldl_append]; rfl
    simp only [List.nil_append] at in2
    rw [eq]
    simp [Rounds_members_l3, in2, freeze]) rfl ⟨_, _, _, rfl⟩
  simp only [List.nil_append] at loop
  refine runD_rt rfl ?_
  simp only [startD, N_Rounds_members, List.length_cons, List.length_nil, List.map_cons, List.map_nil, Nat.reduceAdd, Nat.reduceSub, Nat.zero_add, List.replicate, List.cons_append, List.nil_append]
  have l0 : 0 ≤ lim := by decide
  have l1 : 1 ≤ lim := by decide
  simp [e_Rounds_members, fld_rounds, loop, l0, l1]
theorem size_ok {rs : List Int} (g : OkG rs) : d_Group_size [gR rs] = .ok (.int (rs.foldl (· * ·) 1)) := by
  refine runD_rt rfl ?_
  simp only [startD, N_Group_size, List.length_cons, List.length_nil, List.map_cons, List.map_nil, Nat.reduceAdd, Nat.reduceSub, Nat.zero_add, List.replicate, List.cons_append, List.nil_append]
  have m := members_ok g.ok g.most g.prod
  have l := mems_len (rs := rs) fun n hn => by have := g.ok.two n hn; omega
  simp [e_Group_size, mthD, mt_members, m, l]
theorem even_ok (rs : List Int) : d_Rounds_is_even [gR rs] = .ok (.bl true) := by kernel_rfl
theorem is_rounds (rs : List Int) : isD isC isU (gR rs) (.cls 0) = .ok (.bl true) := by kernel_rfl
theorem groups_ok {lo up : List Int} (g1 : OkG lo) (g2 : OkG up) (h1 : lo.foldl (· * ·) 1 ≤ 16) (h2 : up.foldl (· * ·) 1 ≤ 9) : d_look_at_groups [gR lo, gR up] = .ok .non := by
  refine runD_nx (r := [.sh (gR lo), .sh (gR up)]) rfl ?_
  simp only [startD, N_look_at_groups, List.length_cons, List.length_nil, List.map_cons, List.map_nil, Nat.reduceAdd, Nat.reduceSub, Nat.zero_add, List.replicate, List.cons_append, List.nil_append]
  have z1 : ¬ (16 : Int) < lo.foldl (· * ·) 1 := by omega
  have z2 : ¬ (9 : Int) < up.foldl (· * ·) 1 := by omega
  simp [e_look_at_groups, mthD, mt_size, size_ok g1, size_ok g2, mt_is_even, even_ok, is_rounds, z1, z2]
theorem fld_kept (lo up : List Int) (d : D) : fldD (plOf [2] "kept") (.obj 2 [gR lo, gR up, d]) = .ok d := by
  have e : plOf [2] "kept" 2 = some 2 := by kernel_rfl
  unfold fldD
  simp [e]
/-- two groups that make a table -/
structure OkT (lo up : List Int) : Prop where
  g1 : OkG lo
  g2 : OkG up
  p1 : lo.foldl (· * ·) 1 ≤ 16
  p2 : up.foldl (· * ·) 1 ≤ 9
/-- carries -/
def OkC (lo up : List Int) (c : List Int → List Int → List Int) : Prop := ∀ x y, OkE up x → OkE up y → OkE lo (c x y)
theorem OkT.small {lo up : List Int} (t : OkT lo up) : up ∈ smallUps := small_ups t.g2.ok.two t.p2
theorem OkT.mems_le {lo up : List Int} (t : OkT lo up) : (mems up).length ≤ 9 := by
  have := mems_len (rs := up) fun n hn => by have := t.g2.ok.two n hn; omega
  have := t.p2
  omega
theorem l_two : (2 : Nat) ≤ lim := by decide
theorem table_ok {lo up : List Int} {c : List Int → List Int → List Int} (t : OkT lo up) (cd : D) (h : ∀ x y, OkE up x → OkE up y → notInD (pkD (x, y)) cd = .ok (.bl false) ∧ ixD cd (pkD (x, y)) = .ok (tuI (c x y)) ∧ OkE lo (c x y)) : d_Table_init [gR lo, gR up, cd] = .ok (tabD lo up c) := by
  have g := groups_ok t.g1 t.g2 t.p1 t.p2
  have m := members_ok t.g2.ok t.g2.most t.g2.prod
  have l9 := t.mems_le
  let env (ps : List (List Int × List Int)) (s5 s6 : Slot) : Env := [.ow (.parts [.sh, .sh, .flat]) (.obj 2 [gR lo, gR up, dicF pkD tuI ps fun p => c p.1 p.2]), .sh (gR lo), .sh (gR up), .sh cd, .sh (.lst ((mems up).map tuI)), s5, s6]
  have inner : ∀ (ps : List (List Int × List Int)) (x : List Int) (s6 : Slot), OkE up x → (∀ y, (x, y) ∉ ps) → ps.length ≤ 81 → ∃ s6', forD Table_init_l1 ((mems up).map tuI) (env ps (.sh (tuI x)) s6) = .nx (env (ps ++ (mems up).map fun y => (x, y)) (.sh (tuI x)) s6') := fun ps x s6 hx hno hlen => by
    obtain ⟨r', e, s6', rfl⟩ := forD_row (pre0 := mems up) (f := Table_init_l1) tuI (fun done r => ∃ s6, r = env (ps ++ done.map fun y => (x, y)) (.sh (tuI x)) s6) (ds := mems up) (pre := []) (r := env ps (.sh (tuI x)) s6) (fun done y hd r ⟨s6, e⟩ => by
      subst e
      obtain ⟨rest, hr⟩ := hd
      have hy : OkE up y := mem_mems.mp (by rw [← hr]; simp)
      obtain ⟨q1, q2, q3⟩ := h x y hx hy
      have hh := has_ok q3
      have hl : (ps ++ done.map fun y => (x, y)).length < lim := by
        have := congrArg List.length hr
        simp at this
        simp
        unfold lim
        omega
      have nodup : ((mems up)).Nodup := mems_nodup up
      have hnew : (x, y) ∉ ((ps ++ done.map fun y => (x, y)).map fun p => (p, c p.1 p.2)).map (·.1) := by
        rw [List.map_map]
        intro hm
        obtain ⟨p, hp, e⟩ := List.mem_map.mp hm
        have e' : p = (x, y) := e
        subst e'
        rcases List.mem_append.mp hp with z | z
        · exact hno y z
        · obtain ⟨w, hw, e⟩ := List.mem_map.mp z
          injection e with _ e
          subst e
          rw [← hr, List.nodup_append] at nodup
          have := nodup.1
          rw [List.nodup_append] at this
          exact this.2.2 w hw w (by simp) rfl
      have sk := setK_A' (V := tuI) keyP ((ps ++ done.map fun y => (x, y)).map fun p => (p, c p.1 p.2)) (x, y) (c x y)
      rw [setA_new _ hnew] at sk
      have kt := keyP.t (x, y)
      refine ⟨env (ps ++ (done ++ [y]).map fun y => (x, y)) (.sh (tuI x)) (.sh (tuI y)), ?_, _, rfl⟩
      have eq : dicF pkD tuI (ps ++ (done ++ [y]).map fun y => (x, y)) (fun p => c p.1 p.2) = dicA pkD tuI (((ps ++ done.map fun y => (x, y)).map fun p => (p, c p.1 p.2)) ++ [((x, y), c x y)]) := by
        simp [dicF]
      show Table_init_l1 (tuI y) _ = .nx [.ow (.parts [.sh, .sh, .flat]) (.obj 2 [gR lo, gR up, dicF pkD tuI (ps ++ (done ++ [y]).map fun y => (x, y)) fun p => c p.1 p.2]), _, _, _, _, _, _]
      rw [eq, ← sk]
      generalize (ps ++ done.map fun y => (x, y)) = L at *
      simp [Table_init_l1, env, l_two, q1, q2, mthD, mt_has, hh, setFI, Shape.kid, Shape.isFlat, dicF, dicA, kt, hl]) (by simp) ⟨s6, by simp⟩
    exact ⟨s6', by simpa using e⟩
  obtain ⟨r', outer, s5, s6, rfl⟩ := forD_row (pre0 := mems up) (f := Table_init_l2) tuI (fun done r => ∃ s5 s6, r = env (done.flatMap fun x => (mems up).map fun y => (x, y)) s5 s6) (ds := mems up) (pre := []) (r := env [] .un .un) (fun done x hd r ⟨s5, s6, e⟩ => by
    subst e
    obtain ⟨rest, hr⟩ := hd
    have hx : OkE up x := mem_mems.mp (by rw [← hr]; simp)
    have nodup : ((mems up)).Nodup := mems_nodup up
    obtain ⟨s6', q⟩ := inner (done.flatMap fun x => (mems up).map fun y => (x, y)) x s6 hx (fun y hm => by
      obtain ⟨a, ha, hb⟩ := List.mem_flatMap.mp hm
      obtain ⟨b, _, e⟩ := List.mem_map.mp hb
      injection e with e _
      subst e
      rw [← hr, List.nodup_append] at nodup
      have := nodup.1
      rw [List.nodup_append] at this
      exact this.2.2 a ha a (by simp) rfl) (by
      rw [List.length_flatMap]
      simp only [List.length_map, sum_const]
      have h1 : done.length ≤ 9 := by
        have := congrArg List.length hr
        simp at this
        omega
      calc done.length * (mems up).length ≤ 9 * 9 := Nat.mul_le_mul h1 l9
        _ = 81 := rfl)
    refine ⟨_, ?_, .sh (tuI x), s6', rfl⟩
    rw [List.flatMap_append]
    simp only [List.flatMap_cons, List.flatMap_nil, List.append_nil]
    rw [← q]
    simp [Table_init_l2, env]) (by simp) ⟨.un, .un, rfl⟩
  simp only [List.nil_append] at outer
  have st : startI N_Table_init.length 2 [gR lo, gR up, cd] = [.ow .flat (.obj 2 []), .sh (gR lo), .sh (gR up), .sh cd, .un, .un, .un] := rfl
  have e1 : e_Table_init (startI N_Table_init.length 2 [gR lo, gR up, cd]) = .nx (env (prs up) s5 s6) := by
    rw [st]
    have f0 : setF 0 2 "lower" .sh (gR lo) [.ow .flat (.obj 2 []), .sh (gR lo), .sh (gR up), .sh cd, .un, .un, .un] = .nx [.ow .flat (.obj 2 [gR lo]), .sh (gR lo), .sh (gR up), .sh cd, .un, .un, .un] := by kernel_rfl
    have f1 : setF 0 2 "upper" .sh (gR up) [.ow .flat (.obj 2 [gR lo]), .sh (gR lo), .sh (gR up), .sh cd, .un, .un, .un] = .nx [.ow .flat (.obj 2 [gR lo, gR up]), .sh (gR lo), .sh (gR up), .sh cd, .un, .un, .un] := by kernel_rfl
    have f2 : setF 0 2 "kept" .flat (.dic [] []) [.ow .flat (.obj 2 [gR lo, gR up]), .sh (gR lo), .sh (gR up), .sh cd, .un, .un, .un] = .nx [.ow (.parts [.sh, .sh, .flat]) (.obj 2 [gR lo, gR up, .dic [] []]), .sh (gR lo), .sh (gR up), .sh cd, .un, .un, .un] := by kernel_rfl
    have o2 : forD Table_init_l2 ((mems up).map tuI) [.ow (.parts [.sh, .sh, .flat]) (.obj 2 [gR lo, gR up, .dic [] []]), .sh (gR lo), .sh (gR up), .sh cd, .sh (.lst ((mems up).map tuI)), .un, .un] = .nx (env (prs up) s5 s6) := outer
    simp only [e_Table_init, getS_succ, getS0, ok_bind, g, lift_ok, nx_seq, f0, f1, f2, mthD, mt_members, if_true, m, List.set_cons_succ, List.set_cons_zero, itemsD_lst]
    simp [o2, m]
  exact runI_nx rfl e1
theorem carries_ok {lo up : List Int} {c : List Int → List Int → List Int} (t : OkT lo up) : d_Table_carries [tabD lo up c] = .ok (dicF pkD tuI (prs up) fun p => c p.1 p.2) := by
  have q := dictD_F (E := pkD) (V := tuI) (prs up) (fun p => c p.1 p.2) (apart_prs t.small)
  first | refine runD_rt rfl ?_ | refine runO_rt rfl ?_
  simp only [startD, N_Table_carries, List.length_cons, List.length_nil, List.map_cons, List.map_nil, Nat.reduceAdd, Nat.reduceSub, Nat.zero_add, List.replicate, List.cons_append, List.nil_append]
  simp [e_Table_carries, tabD, fld_kept, q]
theorem q_members_ok {rs : List Int} (h : OkR rs) (hb : ∀ n ∈ rs, n ≤ 144) (hp : rs.foldl (· * ·) 1 ≤ 144) : d_q_members [tuI rs] = .ok (.lst ((mems rs).map tuI)) := by
  have l7 := h.len
  have bound : ∀ (l : List Int) (S : List (List Int)), (∀ n ∈ l, 2 ≤ n) → S.length ≤ (l.foldl memsStep S).length := fun l => by
    induction l with
    | nil => intro S _; exact Nat.le_refl _
    | cons n l ih =>
      intro S hl
      have := ih (memsStep S n) fun m hm => hl m (List.mem_cons_of_mem _ hm)
      have hn := hl n List.mem_cons_self
      rw [step_len] at this
      have : S.length * 1 ≤ S.length * n.toNat := Nat.mul_le_mul_left _ (by omega)
      rw [List.foldl_cons]
      omega
  have tot : (mems rs).length ≤ 144 := by
    have := mems_len (rs := rs) fun n hn => by have := h.two n hn; omega
    omega
  have l1 : 1 ≤ lim := by decide
  -- the innermost walk
  have in1 : ∀ (n : Nat) (x : List Int) (F : List (List Int)) (s1 s2 s4 : Slot), x.length < 1000 → F.length + n ≤ 1000 → ∃ t, forD q_members_l1 (rangeL 0 n) [.sh (tuI rs), s1, s2, .ow .flat (.lst (F.map tuI)), .sh (tuI x), s4] = .nx [.sh (tuI rs), s1, s2, .ow .flat (.lst ((F ++ (List.range n).map fun i : Nat => x ++ [(i : Int)]).map tuI)), .sh (tuI x), t] := fun n x F s1 s2 s4 hx hF => by
    rw [rangeL_nat]
    obtain ⟨r', e, t, rfl⟩ := forD_row (pre0 := List.range n) (f := q_members_l1) (fun i : Nat => D.int i) (fun done r => ∃ t, r = [.sh (tuI rs), s1, s2, .ow .flat (.lst ((F ++ done.map fun i : Nat => x ++ [(i : Int)]).map tuI)), .sh (tuI x), t]) (ds := List.range n) (pre := []) (r := [.sh (tuI rs), s1, s2, .ow .flat (.lst (F.map tuI)), .sh (tuI x), s4]) (fun done i hd r ⟨t, e⟩ => by
      subst e
      obtain ⟨rest, hr⟩ := hd
      have hl := congrArg List.length hr
      simp at hl
      have ll : (F ++ done.map fun i : Nat => x ++ [(i : Int)]).length < lim := by simp; unfold lim; omega
      have lx : x.length + 1 ≤ lim := by unfold lim; omega
      refine ⟨[.sh (tuI rs), s1, s2, .ow .flat (.lst ((F ++ (done ++ [i]).map fun i : Nat => x ++ [(i : Int)]).map tuI)), .sh (tuI x), .sh (.int i)], ?_, _, rfl⟩
      have eq : (F ++ (done ++ [i]).map fun i : Nat => x ++ [(i : Int)]) = (F ++ done.map fun i : Nat => x ++ [(i : Int)]) ++ [x ++ [(i : Int)]] := by simp
      rw [eq]
      generalize (F ++ done.map fun i : Nat => x ++ [(i : Int)]) = L at *
      simp [q_members_l1, appG, ownL, lx, l1, ll]) (by simp) ⟨s4, by simp⟩
    exact ⟨t, by simpa using e⟩
  obtain ⟨r', loop, s2, s3, s4, s5, rfl⟩ := forD_row (pre0 := rs) (f := q_members_l3) D.int (fun pre r => ∃ s2 s3 s4 s5, r = [.sh (tuI rs), .sh (.lst ((mems pre).map tuI)), s2, s3, s4, s5]) (ds := rs) (pre := []) (r := [.sh (tuI rs), .sh (.lst [.tup []]), .un, .un, .un, .un]) (fun pre n hpre r ⟨s2, s3, s4, s5, e⟩ => by
    subst e
    obtain ⟨post, hpost⟩ := hpre
    have hn : n ∈ rs := by rw [← hpost]; simp
    have n2 := h.two n hn
    have n3 := hb n hn
    have elen : ∀ x ∈ mems pre, x.length < 1000 := fun x hx => by
      have := (mem_mems.mp hx).len
      have := congrArg List.length hpost
      simp at this
      omega
    have small : (memsStep (mems pre) n).length ≤ 144 := by
      have e : mems rs = post.foldl memsStep (memsStep (mems pre) n) := by
        unfold mems
        rw [← hpost, List.foldl_append, List.foldl_append]
        rfl
      have := bound post (memsStep (mems pre) n) fun m hm => h.two m (by rw [← hpost]; simp [hm])
      rw [← e] at this
      omega
    have r1 : rng1 [.int n] = .ok (rangeL 0 n.toNat) := rng1_ok (by omega) (by omega)
    obtain ⟨r2, in2, t4, t5, rfl⟩ := forD_row (pre0 := mems pre) (f := q_members_l2) tuI (fun done r => ∃ t4 t5, r = [.sh (tuI rs), .sh (.lst ((mems pre).map tuI)), .sh (.int n), .ow .flat (.lst ((memsStep done n).map tuI)), t4, t5]) (ds := mems pre) (pre := []) (r := [.sh (tuI rs), .sh (.lst ((mems pre).map tuI)), .sh (.int n), .ow .flat (.lst []), s4, s5]) (fun done x hd r ⟨t4, t5, e⟩ => by
      subst e
      obtain ⟨rest, hr⟩ := hd
      have hx : x ∈ mems pre := by rw [← hr]; simp
      have eq : memsStep (done ++ [x]) n = memsStep done n ++ (List.range n.toNat).map fun i : Nat => x ++ [(i : Int)] := by
        unfold memsStep
        simp
      have le : (memsStep done n).length + n.toNat ≤ 1000 := by
        have : (memsStep done n).length + n.toNat = (memsStep (done ++ [x]) n).length := by rw [eq]; simp
        rw [this, step_len]
        rw [step_len, ← hr] at small
        simp at small
        have : (done ++ [x]).length * n.toNat ≤ (done.length + (rest.length + 1)) * n.toNat := Nat.mul_le_mul_right _ (by simp)
        omega
      obtain ⟨t, q⟩ := in1 n.toNat x (memsStep done n) (.sh (.lst ((mems pre).map tuI))) (.sh (.int n)) t5 (elen x hx) le
      refine ⟨_, ?_, .sh (tuI x), t, rfl⟩
      rw [eq]
      generalize ((List.range n.toNat).map fun i : Nat => x ++ [(i : Int)]) = L at *
      simp [q_members_l2, r1, q]) rfl ⟨_, _, rfl⟩
    refine ⟨[.sh (tuI rs), .sh (.lst ((mems (pre ++ [n])).map tuI)), .sh (.int n), .sh (.lst ((memsStep (mems pre) n).map tuI)), t4, t5], ?_, _, _, _, _, rfl⟩
    have eq : mems (pre ++ [n]) = memsStep (mems pre) n := by unfold mems; rw [List.foldl_append]; rfl
    simp only [List.nil_append] at in2
    rw [eq]
    simp [q_members_l3, in2, freeze]) rfl ⟨_, _, _, _, rfl⟩
  simp only [List.nil_append] at loop
  have l0 : 0 ≤ lim := by decide
  first | refine runD_rt rfl ?_ | refine runO_rt rfl ?_
  simp only [startD, N_q_members, List.length_cons, List.length_nil, List.map_cons, List.map_nil, Nat.reduceAdd, Nat.reduceSub, Nat.zero_add, List.replicate, List.cons_append, List.nil_append]
  simp [e_q_members, loop, l0, l1]
theorem getC {lo up : List Int} (c : List Int → List Int → List Int) {x y : List Int} (hx : OkE up x) (hy : OkE up y) : ixD (dicF pkD tuI (prs up) fun p => c p.1 p.2) (.tup [tuI x, tuI y]) = .ok (tuI (c x y)) := by
  have l : lookA ((prs up).map fun p => (p, c p.1 p.2)) (x, y) = some (c x y) := lookA_map (fun p : List Int × List Int => c p.1 p.2) (mem_prs.mpr ⟨mem_mems.mpr hx, mem_mems.mpr hy⟩)
  exact ixD_A (V := tuI) keyP ((prs up).map fun p => (p, c p.1 p.2)) (x, y) l
theorem seq_nx {o : Oc} {B : Env → Oc} {v : D} {r1 : Env} (h : o = .nx r1) (k : B r1 = .rt v) : o.seq B = .rt v := by rw [h]; exact k
def cD (up : List Int) (c : List Int → List Int → List Int) : D := dicF pkD tuI (prs up) fun p => c p.1 p.2
theorem eqD_cD (up : List Int) (c : List Int → List Int → List Int) : eqD (cD up c) (cD up c) = .ok (.bl true) := by
  have e := eqD_F keyP (prs up) (fun p => c p.1 p.2) (fun p => c p.1 p.2)
  simp only [implies_true, decide_true] at e
  exact e
abbrev tl (x : Str) : List Nat := x.cps.toList
def oD : Option Nat → D
  | none => .non
  | some n => .int (n : Nat)
def isFig (c : Nat) : Bool := decide (48 ≤ c ∧ c ≤ 57)
/-- the number that a word writes -/
def numR (w : Str) : Option Nat :=
  if (1 ≤ (tl w).length ∧ (tl w).length ≤ 3) ∧ ¬ (1 < (tl w).length ∧ (tl w).headD 0 = 48) ∧ (tl w).all isFig = true then some (NumText.digitsVal (tl w)) else none
/-- texts that are met here -/
structure OkS (w : Str) : Prop where
  len : w.length ≤ 1000
  c : ∀ c ∈ tl w, c < 256
theorem OkS.ok {w : Str} (h : OkS w) (n : Nat) : okQ n (.str w) = true := by
  rw [okQ_str]
  show w.cps.all (· < 0x110000) = true
  rw [Array.all_eq_true_iff_forall_mem]
  intro c hc
  have := h.c c (Array.mem_toList_iff.mpr hc)
  simp
  omega
theorem tl_len (w : Str) : w.length = (tl w).length := Array.length_toList.symm
theorem len_str {w : Str} (h : OkS w) : lenD (.str w) = .ok (.int ((tl w).length : Nat)) := by
  show (if w.length ≤ lim then Res.ok (D.int w.length) else .bad) = _
  rw [if_pos (by have := h.len; unfold lim; omega), tl_len]
theorem eq_str {a b : Str} (ha : OkS a) (hb : OkS b) : eqD (.str a) (.str b) = .ok (.bl (decide (a = b))) := by
  rw [eqD_ok (ha.ok 64) (hb.ok 64)]
  congr 2
theorem sign_ok {c : Nat} (h : c < 256) : OkS ⟨#[c]⟩ := ⟨by show (1 : Nat) ≤ 1000; omega, fun d hd => by
  have : d = c := by simpa [tl] using hd
  rw [this]; exact h⟩
theorem figs_tl : tl ("0123456789" : Str) = [48, 49, 50, 51, 52, 53, 54, 55, 56, 57] := by decide +kernel
theorem in_figs (c : Nat) : decide (c ∈ tl ("0123456789" : Str)) = isFig c := by
  rw [figs_tl]
  unfold isFig
  refine decide_eq_decide.mpr ?_
  simp only [List.mem_cons, List.not_mem_nil, or_false]
  omega
theorem notIn_fig (c : Nat) : notInS1 (.str ⟨#[c]⟩) (.str "0123456789") = .ok (.bl (!isFig c)) := by
  show Res.ok (D.bl (!decide (c ∈ tl ("0123456789" : Str)))) = _
  rw [in_figs]
theorem in_fig (c : Nat) : inS1 (.str ⟨#[c]⟩) (.str "0123456789") = .ok (.bl (isFig c)) := by
  show Res.ok (D.bl (decide (c ∈ tl ("0123456789" : Str)))) = _
  rw [in_figs]
theorem zero_tl : ("0" : Str) = ⟨#[48]⟩ := by decide +kernel
theorem ix_head {w : Str} (h : OkS w) (h1 : 1 ≤ (tl w).length) : ixD (.str w) (.int 0) = .ok (.str ⟨#[(tl w).headD 0]⟩) := by
  show (if w.length ≤ lim then (match atI w.cps.toList 0 with | some c => Res.ok (D.str ⟨#[c]⟩) | none => .bad) else .bad) = _
  rw [if_pos (by have := h.len; unfold lim; omega)]
  have e : atI (tl w) 0 = some ((tl w).headD 0) := by
    generalize tl w = l at *
    match l, h1 with
    | a :: l, _ => exact atI_nat (a :: l) 0 (by simp)
  rw [show atI w.cps.toList 0 = some ((tl w).headD 0) from e]
theorem head_eq {w : Str} (h : OkS w) (h1 : 1 ≤ (tl w).length) : eqD (.str ⟨#[(tl w).headD 0]⟩) (.str "0") = .ok (.bl (decide ((tl w).headD 0 = 48))) := by
  have hc : (tl w).headD 0 < 256 := by
    have hm := h.c
    generalize tl w = l at *
    match l, h1 with
    | a :: l, _ => exact hm a (List.mem_cons_self ..)
  rw [eq_str (sign_ok hc) (by rw [zero_tl]; exact sign_ok (by omega))]
  congr 2
  refine decide_eq_decide.mpr ⟨fun e => ?_, fun e => by rw [e, zero_tl]⟩
  rw [zero_tl] at e
  have := congrArg tl e
  simpa [tl] using this
theorem int_read {w : Str} (h3 : (tl w).length ≤ 3) (h1 : 1 ≤ (tl w).length) (hd : (tl w).all isFig = true) : intD (.str w) = .ok (.int (NumText.digitsVal (tl w) : Nat)) := by
  have e := intText_digits (x := w) (fun c hc => of_decide_eq_true (List.all_eq_true.mp hd c hc)) (fun z => by
    have : (tl w).length = 0 := by rw [show tl w = [] from z]; rfl
    omega) (by rw [tl_len]; omega)
  have e2 : intD (.str w) = match PySem.intText? w with
    | some n => if w.length ≤ 640 then .ok (.int n) else .bad
    | none => .bad := rfl
  rw [e2, e]
  show (if w.length ≤ 640 then Res.ok (D.int _) else .bad) = _
  rw [if_pos (by rw [tl_len]; omega)]
theorem signs_tl (w : Str) : itemsD (.str w) = .ok ((tl w).map fun c => D.str ⟨#[c]⟩) := rfl
theorem number_read_ok {w : Str} (h : OkS w) : d_number_read [.str w] = .ok (oD (numR w)) := by
  have ln := len_str h
  have le1 : leD (.int 1) (.int ((tl w).length : Nat)) = .ok (.bl (decide (1 ≤ (tl w).length))) := by
    rw [leD_int]; congr 2; exact decide_eq_decide.mpr (by omega)
  have le3 : leD (.int ((tl w).length : Nat)) (.int 3) = .ok (.bl (decide ((tl w).length ≤ 3))) := by
    rw [leD_int]; congr 2; exact decide_eq_decide.mpr (by omega)
  have gt1 : gtD (.int ((tl w).length : Nat)) (.int 1) = .ok (.bl (decide (1 < (tl w).length))) := by
    rw [gtD_int]; congr 2; exact decide_eq_decide.mpr (by omega)
  have it := signs_tl w
  unfold numR
  by_cases c1 : 1 ≤ (tl w).length ∧ (tl w).length ≤ 3
  · rw [decide_eq_true c1.1] at le1
    rw [decide_eq_true c1.2] at le3
    by_cases c2 : 1 < (tl w).length ∧ (tl w).headD 0 = 48
    · rw [if_neg (fun z => z.2.1 c2)]
      have ix := ix_head h c1.1
      have hq := head_eq h c1.1
      rw [decide_eq_true c2.2] at hq
      rw [decide_eq_true c2.1] at gt1
      refine runD_rt rfl ?_
      simp only [startD, N_number_read, List.length_cons, List.length_nil, List.map_cons, List.map_nil, Nat.reduceAdd, Nat.reduceSub, Nat.zero_add, List.replicate, List.cons_append, List.nil_append]
      generalize D.str ⟨#[(tl w).headD 0]⟩ = hs at *
      generalize (((tl w).length : Nat) : Int) = LN at *
      simp [e_number_read, ln, le1, le3, gt1, ix, hq, -leD_int, -gtD_int]
      rfl
    · have go : ∀ (s : Slot), ∃ s', ((tl w).all isFig = true → forD number_read_l1 ((tl w).map fun c => D.str ⟨#[c]⟩) [.sh (.str w), s] = .nx [.sh (.str w), s']) ∧ ((tl w).all isFig = false → forD number_read_l1 ((tl w).map fun c => D.str ⟨#[c]⟩) [.sh (.str w), s] = .rt .non) := by
        generalize D.str w = W
        generalize tl w = l
        intro s
        induction l generalizing s with
        | nil => exact ⟨s, fun _ => rfl, fun z => by simp at z⟩
        | cons a l ih =>
          have nf := notIn_fig a
          obtain ⟨s', i1, i2⟩ := ih (.sh (.str ⟨#[a]⟩))
          by_cases fa : isFig a = true
          · rw [fa] at nf
            have st : number_read_l1 (.str ⟨#[a]⟩) [.sh W, s] = .nx [.sh W, .sh (.str ⟨#[a]⟩)] := by
              simp [number_read_l1, nameG, nf]
            refine ⟨s', fun z => ?_, fun z => ?_⟩
            · rw [List.map_cons, forD_cons, st]
              rw [List.all_cons, fa, Bool.true_and] at z
              exact i1 z
            · rw [List.map_cons, forD_cons, st]
              rw [List.all_cons, fa, Bool.true_and] at z
              exact i2 z
          · have fa : isFig a = false := by simpa using fa
            rw [fa] at nf
            have st : number_read_l1 (.str ⟨#[a]⟩) [.sh W, s] = .rt .non := by
              simp [number_read_l1, nameG, nf]
            refine ⟨s, fun z => ?_, fun z => ?_⟩
            · rw [List.all_cons, fa, Bool.false_and] at z
              cases z
            · rw [List.map_cons, forD_cons, st]
      obtain ⟨s', g1, g2⟩ := go .un
      have hcond : ∀ t : Bool, (tl w).all isFig = t → e_number_read [.sh (.str w), .un] = .rt (oD (if t = true then some (NumText.digitsVal (tl w)) else none)) := fun t ht => by
        have pre : ((gtD (.int ((tl w).length : Nat)) (.int 1) >>= asB) >>= fun t => if t = true then ((ixD (.str w) (.int 0) >>= fun x => eqD x (.str "0")) >>= asB) else .ok false) = .ok false := by
          rw [gt1]
          by_cases c3 : 1 < (tl w).length
          · have hq := head_eq h c1.1
            rw [decide_eq_false (fun z => c2 ⟨c3, z⟩)] at hq
            rw [decide_eq_true c3, ix_head h c1.1]
            show (eqD (.str ⟨#[(tl w).headD 0]⟩) (.str "0") >>= asB) = _
            rw [hq]
            rfl
          · rw [decide_eq_false c3]
            rfl
        cases t
        · have g2 := g2 ht
          show _ = Oc.rt .non
          generalize ((tl w).map fun c => D.str ⟨#[c]⟩) = SG at *
          generalize (((tl w).length : Nat) : Int) = LN at *
          simp only [e_number_read]
          refine seq_nx (r1 := [.sh (.str w), .un]) ?_ ?_
          · simp [ln, le1, le3, pre, -leD_int, -gtD_int]
          · simp [it, g2]
        · have g1 := g1 ht
          have ir := int_read c1.2 c1.1 ht
          show _ = Oc.rt (.int (NumText.digitsVal (tl w) : Nat))
          generalize ((NumText.digitsVal (tl w) : Nat) : Int) = VV at *
          generalize ((tl w).map fun c => D.str ⟨#[c]⟩) = SG at *
          generalize (((tl w).length : Nat) : Int) = LN at *
          simp only [e_number_read]
          refine seq_nx (r1 := [.sh (.str w), .un]) ?_ ?_
          · simp [ln, le1, le3, pre, -leD_int, -gtD_int]
          · simp [it, g1, ir, -intD]
      refine runD_rt rfl ?_
      simp only [startD, N_number_read, List.length_cons, List.length_nil, List.map_cons, List.map_nil, Nat.reduceAdd, Nat.reduceSub, Nat.zero_add, List.replicate, List.cons_append, List.nil_append]
      rw [hcond _ rfl]
      congr 2
      by_cases c3 : (tl w).all isFig = true
      · rw [if_pos c3, if_pos ⟨c1, c2, c3⟩]
      · rw [if_neg c3, if_neg (fun z => c3 z.2.2)]
  · rw [if_neg (fun z => c1 z.1)]
    have pre : ((leD (.int 1) (.int ((tl w).length : Nat)) >>= asB) >>= fun t => if t = true then leD (.int ((tl w).length : Nat)) (.int 3) >>= asB else .ok false) = .ok false := by
      rw [le1, le3]
      by_cases c2 : 1 ≤ (tl w).length
      · rw [decide_eq_true c2, decide_eq_false (fun z => c1 ⟨c2, z⟩)]; rfl
      · rw [decide_eq_false c2]; rfl
    refine runD_rt rfl ?_
    simp only [startD, N_number_read, List.length_cons, List.length_nil, List.map_cons, List.map_nil, Nat.reduceAdd, Nat.reduceSub, Nat.zero_add, List.replicate, List.cons_append, List.nil_append]
    show _ = Oc.rt .non
    clear le1 le3 gt1
    generalize (((tl w).length : Nat) : Int) = LN at *
    simp [e_number_read, ln, pre, -leD_int, -gtD_int]
theorem spl_in (S : List Nat) : ∀ (l : List Nat) (k : Nat) (acc : List Nat), ∀ p ∈ TL.spl S k acc l, p.length ≤ acc.length + l.length ∧ ∀ c ∈ p, c ∈ acc ∨ c ∈ l
  | [], k, acc, p, hp => by
    rw [TL.spl_nil] at hp
    rw [List.mem_singleton.mp hp]
    exact ⟨by simp, fun c hc => .inl hc⟩
  | a :: l, 0, acc, p, hp => by
    by_cases h : TL.pre S (a :: l) = true
    · rw [TL.spl_hit h] at hp
      rcases List.mem_cons.mp hp with rfl | hp
      · exact ⟨by omega, fun c hc => .inl hc⟩
      · obtain ⟨h1, h2⟩ := spl_in S l _ _ p hp
        refine ⟨by simp only [List.length_nil, List.length_cons] at h1 ⊢; omega, fun c hc => ?_⟩
        rcases h2 c hc with h | h
        · simp at h
        · exact .inr (List.mem_cons_of_mem _ h)
    · have h : TL.pre S (a :: l) = false := by simpa using h
      rw [TL.spl_miss h] at hp
      obtain ⟨h1, h2⟩ := spl_in S l _ _ p hp
      refine ⟨by simp only [List.length_append, List.length_cons, List.length_nil] at h1 ⊢; omega, fun c hc => ?_⟩
      rcases h2 c hc with h | h
      · rcases List.mem_append.mp h with h | h
        · exact .inl h
        · rw [List.mem_singleton.mp h]
          exact .inr (List.mem_cons_self ..)
      · exact .inr (List.mem_cons_of_mem _ h)
  | a :: l, k + 1, acc, p, hp => by
    have hp : p ∈ TL.spl S k acc l := hp
    obtain ⟨h1, h2⟩ := spl_in S l _ _ p hp
    exact ⟨by simp only [List.length_cons]; omega, fun c hc => (h2 c hc).imp id (List.mem_cons_of_mem _)⟩
theorem sep_ok {t y : Str} (ht : OkS t) (hy : tl y ≠ []) (h2 : ∀ c ∈ tl y, c < 256) : ∀ w ∈ Txt.split t y, OkS w := by
  have e := TL.split_spl t y hy (TL.kind_ok (by
    rw [Array.all_eq_true_iff_forall_mem]
    intro c hc
    simp
    exact h2 c (Array.mem_toList_iff.mpr hc)))
  intro w hw
  have hm : tl w ∈ TL.spl (TL.tl y) 0 [] (TL.tl t) := by rw [← e]; exact List.mem_map_of_mem hw
  obtain ⟨h1, h3⟩ := spl_in _ _ _ _ _ hm
  refine ⟨?_, fun c hc => ?_⟩
  · rw [tl_len]
    have := ht.len
    rw [tl_len] at this
    simp only [List.length_nil] at h1
    have : (TL.tl t).length ≤ 1000 := this
    omega
  · rcases h3 c hc with h | h
    · simp at h
    · exact ht.c c h
theorem split_okT {t y : Str} (ht : OkS t) (hy : (y.length == 0) = false) : splitD (.str t) (.str y) = .ok (.lst ((Txt.split t y).map D.str)) := by
  show (if (y.length == 0) = false ∧ t.length + 2 ≤ lim then Res.ok (D.lst _) else .bad) = _
  rw [if_pos ⟨hy, by have := ht.len; unfold lim; omega⟩]
theorem x_tl : tl ("x" : Str) = [120] := by decide +kernel
theorem comma_tl : tl ("," : Str) = [44] := by decide +kernel
theorem blank_tl : tl (" " : Str) = [32] := by decide +kernel
theorem wordsX {t : Str} (ht : OkS t) : splitD (.str t) (.str "x") = .ok (.lst ((Txt.split t "x").map D.str)) ∧ ∀ w ∈ Txt.split t "x", OkS w := ⟨split_okT ht (by decide +kernel), sep_ok ht (by rw [x_tl]; simp) (by rw [x_tl]; simp)⟩
theorem wordsC {t : Str} (ht : OkS t) : splitD (.str t) (.str ",") = .ok (.lst ((Txt.split t ",").map D.str)) ∧ ∀ w ∈ Txt.split t ",", OkS w := ⟨split_okT ht (by decide +kernel), sep_ok ht (by rw [comma_tl]; simp) (by rw [comma_tl]; simp)⟩
theorem wordsB {t : Str} (ht : OkS t) : splitD (.str t) (.str " ") = .ok (.lst ((Txt.split t " ").map D.str)) ∧ ∀ w ∈ Txt.split t " ", OkS w := ⟨split_okT ht (by decide +kernel), sep_ok ht (by rw [blank_tl]; simp) (by rw [blank_tl]; simp)⟩
theorem words_len {t y : Str} (ht : OkS t) : (Txt.split t y).length ≤ 1002 := by
  have := split_le t y
  have := ht.len
  omega
def prodO (os : List (Option Nat)) : Int := (os.map fun o => ((o.getD 0 : Nat) : Int)).foldl (· * ·) 1
def good2 : Option Nat → Bool
  | some n => decide (2 ≤ n)
  | none => false
def good3 : Option Nat → Bool
  | some n => decide (2 ≤ n ∧ n ≤ 144)
  | none => false
def valR (os : List (Option Nat)) : List Int := os.map fun o => ((o.getD 0 : Nat) : Int)
def roundsR (os : List (Option Nat)) : Option (List Int) := if os.length ≤ 7 ∧ os.all good2 = true ∧ prodO os ≤ 144 then some (valR os) else none
def rdR (t : Str) : Option (List Int) := if t = "1" then some [] else roundsR ((Txt.split t "x").map numR)
theorem fold_ge {l : List Int} (h : ∀ n ∈ l, 2 ≤ n) : ∀ {m : Int}, 1 ≤ m → m ≤ l.foldl (· * ·) m ∧ ∀ n ∈ l, n ≤ l.foldl (· * ·) m := by
  induction l with
  | nil => exact fun h => ⟨Int.le_refl _, fun n hn => by simp at hn⟩
  | cons a l ih =>
    intro m hm
    have ha := h a (List.mem_cons_self ..)
    have h1 : m ≤ m * a := by
      have := Int.mul_le_mul_of_nonneg_left (show (1 : Int) ≤ a by omega) (show 0 ≤ m by omega)
      omega
    have h2 : a ≤ m * a := by
      have := Int.mul_le_mul_of_nonneg_right (show (1 : Int) ≤ m by omega) (show 0 ≤ a by omega)
      omega
    obtain ⟨i1, i2⟩ := ih (fun n hn => h n (List.mem_cons_of_mem _ hn)) (show 1 ≤ m * a by omega)
    refine ⟨by rw [List.foldl_cons]; omega, fun n hn => ?_⟩
    rw [List.foldl_cons]
    rcases List.mem_cons.mp hn with rfl | hn
    · omega
    · exact i2 n hn
theorem val_two {os : List (Option Nat)} (h : os.all good2 = true) : ∀ n ∈ valR os, 2 ≤ n := fun n hn => by
  obtain ⟨o, ho, rfl⟩ := List.mem_map.mp hn
  have := List.all_eq_true.mp h o ho
  match o, this with
  | some k, this =>
    have : 2 ≤ k := of_decide_eq_true this
    show (2 : Int) ≤ (k : Nat)
    omega
theorem roundsR_ok {os : List (Option Nat)} {rs : List Int} (h : roundsR os = some rs) : OkG rs ∧ os.map oD = rs.map D.int ∧ os.all good3 = true ∧ prodO os ≤ 144 ∧ os.length ≤ 7 := by
  unfold roundsR at h
  split at h
  · rename_i hc
    cases h
    obtain ⟨h7, h2, h144⟩ := hc
    have v2 := val_two h2
    have vm : ∀ n ∈ valR os, n ≤ 144 := fun n hn => Int.le_trans ((fold_ge v2 (Int.le_refl 1)).2 n hn) h144
    refine ⟨⟨⟨v2, by unfold valR; rw [List.length_map]; exact h7⟩, vm, h144⟩, ?_, ?_, h144, h7⟩
    · unfold valR
      rw [List.map_map]
      refine List.map_congr_left fun o ho => ?_
      have := List.all_eq_true.mp h2 o ho
      match o, this with
      | some k, _ => rfl
    · rw [List.all_eq_true]
      intro o ho
      have a := List.all_eq_true.mp h2 o ho
      have b := vm ((o.getD 0 : Nat) : Int) (List.mem_map.mpr ⟨o, ho, rfl⟩)
      match o, a, b with
      | some k, a, b =>
        have a : 2 ≤ k := of_decide_eq_true a
        have b : ((k : Nat) : Int) ≤ 144 := b
        exact decide_eq_true ⟨a, by omega⟩
  · cases h
theorem roundsR_no {os : List (Option Nat)} (h : roundsR os = none) (h7 : os.length ≤ 7) (h3 : os.all good3 = true) : ¬ prodO os ≤ 144 := fun hp => by
  unfold roundsR at h
  have h2 : os.all good2 = true := by
    rw [List.all_eq_true] at h3 ⊢
    intro o ho
    have a := h3 o ho
    match o, a with
    | some k, a => exact decide_eq_true (of_decide_eq_true a).1
  rw [if_pos ⟨h7, h2, hp⟩] at h
  cases h
theorem whole_oD (o : Option Nat) : d_is_whole [oD o] = .ok (.bl o.isSome) := by
  cases o
  · kernel_rfl
  · exact is_whole_int _
theorem are_loop (src : D) : ∀ (os : List (Option Nat)) (m : Int) (s : Slot), (os.all good3 = true → ∃ s', forD are_rounds_l1 (os.map oD) [.sh src, .sh (.int m), s] = .nx [.sh src, .sh (.int (m * prodO os)), s']) ∧ (os.all good3 = false → forD are_rounds_l1 (os.map oD) [.sh src, .sh (.int m), s] = .rt (.bl false))
  | [], m, s => ⟨fun _ => ⟨s, by unfold prodO; simp⟩, fun h => by simp at h⟩
  | o :: os, m, s => by
    have hw := whole_oD o
    by_cases g : good3 o = true
    · match o, g, hw with
      | some n, g, hw =>
        have g' : 2 ≤ n ∧ n ≤ 144 := of_decide_eq_true g
        have st := rounds_turn src m (n : Int) (by omega) (by omega) s
        obtain ⟨i1, i2⟩ := are_loop src os (m * (n : Int)) (.sh (.int (n : Int)))
        rw [List.map_cons, forD_cons, show oD (some n) = .int (n : Int) from rfl, st, List.all_cons, g, Bool.true_and]
        refine ⟨fun h => ?_, i2⟩
        obtain ⟨s', e⟩ := i1 h
        refine ⟨s', ?_⟩
        have ep : m * prodO (some n :: os) = m * (n : Int) * prodO os := by
          unfold prodO
          rw [List.map_cons, List.foldl_cons, Int.one_mul, Int.mul_assoc]
          congr 1
          generalize (os.map fun o => ((o.getD 0 : Nat) : Int)) = l
          show l.foldl (· * ·) (n : Int) = (n : Int) * l.foldl (· * ·) 1
          have : ∀ (l : List Int) (a b : Int), l.foldl (· * ·) (a * b) = a * l.foldl (· * ·) b := fun l => by
            induction l with
            | nil => exact fun _ _ => rfl
            | cons c l ih => intro a b; rw [List.foldl_cons, List.foldl_cons, Int.mul_assoc, ih]
          have := this l n 1
          rw [Int.mul_one] at this
          exact this
        rw [ep]
        exact e
    · have g : good3 o = false := by simpa using g
      have st : are_rounds_l1 (oD o) [.sh src, .sh (.int m), s] = .rt (.bl false) := by
        match o, g, hw with
        | none, _, hw =>
          have hw : d_is_whole [.non] = .ok (.bl false) := hw
          show are_rounds_l1 .non _ = _
          simp [are_rounds_l1, nameG, hw]
        | some n, g, hw =>
          have hw : d_is_whole [.int (n : Int)] = .ok (.bl true) := hw
          have g : ¬ (2 ≤ n ∧ n ≤ 144) := of_decide_eq_false g
          show are_rounds_l1 (.int (n : Int)) _ = _
          by_cases h2 : 2 ≤ n
          · have z1 : ltD (.int (n : Int)) (.int 2) = .ok (.bl false) := by rw [ltD_int, decide_eq_false (by omega)]
            have z2 : gtD (.int (n : Int)) (.int 144) = .ok (.bl true) := by rw [gtD_int, decide_eq_true (by omega)]
            generalize (n : Int) = ni at *
            simp [are_rounds_l1, nameG, hw, z1, z2, -ltD_int, -gtD_int]
          · have z1 : ltD (.int (n : Int)) (.int 2) = .ok (.bl true) := by rw [ltD_int, decide_eq_true (by omega)]
            generalize (n : Int) = ni at *
            simp [are_rounds_l1, nameG, hw, z1, -ltD_int, -gtD_int]
      rw [List.map_cons, forD_cons, st, List.all_cons, g, Bool.false_and]
      exact ⟨fun h => (by cases h), fun _ => rfl⟩
theorem are_oD (os : List (Option Nat)) : roundsR os = none → d_are_rounds [.lst (os.map oD)] = .ok (.bl false) := fun h => by
  have hi : isD isC isU (.lst (os.map oD)) (.tup [.ty "list", .ty "tuple"]) = .ok (.bl true) := rfl
  have ln : lenD (.lst (os.map oD)) = .ok (.int (os.length : Nat)) := by simp
  have it : itemsD (.lst (os.map oD)) = .ok (os.map oD) := rfl
  have l2 : 2 ≤ lim := by decide
  refine runD_rt rfl ?_
  simp only [startD, N_are_rounds, List.length_cons, List.length_nil, List.map_cons, List.map_nil, Nat.reduceAdd, Nat.reduceSub, Nat.zero_add, List.replicate, List.cons_append, List.nil_append]
  by_cases h7 : os.length ≤ 7
  · have g7 : gtD (.int (os.length : Nat)) (.int 7) = .ok (.bl false) := by rw [gtD_int, decide_eq_false (by omega)]
    obtain ⟨i1, i2⟩ := are_loop (.lst (os.map oD)) os 1 .un
    by_cases h3 : os.all good3 = true
    · obtain ⟨s', e⟩ := i1 h3
      rw [Int.one_mul] at e
      have le : leD (.int (prodO os)) (.int 144) = .ok (.bl false) := by rw [leD_int, decide_eq_false (roundsR_no h h7 h3)]
      generalize prodO os = P at *
      generalize os.map oD = L at *
      generalize ((os.length : Nat) : Int) = N at *
      simp [e_are_rounds, hi, ln, g7, it, e, le, l2, -gtD_int, -leD_int, -lenD_lst, -itemsD_lst]
    · have h3 : os.all good3 = false := by simpa using h3
      have e := i2 h3
      generalize os.map oD = L at *
      generalize ((os.length : Nat) : Int) = N at *
      simp [e_are_rounds, hi, ln, g7, it, e, l2, -gtD_int, -leD_int, -lenD_lst, -itemsD_lst]
  · have g7 : gtD (.int (os.length : Nat)) (.int 7) = .ok (.bl true) := by rw [gtD_int, decide_eq_true (by omega)]
    generalize os.map oD = L at *
    generalize ((os.length : Nat) : Int) = N at *
    simp [e_are_rounds, hi, ln, g7, it, l2, -gtD_int, -leD_int, -lenD_lst, -itemsD_lst]
theorem runI_erT {p n c : Nat} {g : Env → Oc} {ds : List D} {r : Env} {d : D} (h : ds.length = p) (e : g (startI n c ds) = .er d r) : runI p n c g ds = .er d := by
  unfold runI
  rw [if_pos h, e]
theorem init_oD (os : List (Option Nat)) : d_Rounds_init [.lst (os.map oD)] = match roundsR os with | some rs => .ok (gR rs) | none => .er (.exc 11 []) := by
  cases h : roundsR os with
  | some rs =>
    obtain ⟨g, e, _⟩ := roundsR_ok h
    rw [e]
    exact init_ok g _ (.inr rfl)
  | none =>
    have a := are_oD os h
    have e1 : e_Rounds_init (startI N_Rounds_init.length 0 [.lst (os.map oD)]) = .er (.exc 11 []) [.ow .flat (.obj 0 []), .sh (.lst (os.map oD))] := by
      generalize D.lst (os.map oD) = L at *
      have st : startI N_Rounds_init.length 0 [L] = [.ow .flat (.obj 0 []), .sh L] := rfl
      rw [st]
      simp [e_Rounds_init, a]
    exact runI_erT rfl e1
theorem or_none_ok {t : Str} (h : OkS t) : d_rounds_or_none [.str t] = .ok (match rdR t with | some rs => gR rs | none => .non) := by
  have o1 : OkS ("1" : Str) := ⟨by decide +kernel, by decide +kernel⟩
  have q := eq_str h o1
  have ok0 : OkG [] := ⟨⟨by simp, by simp⟩, by simp, by simp⟩
  have i0 : d_Rounds_init [.lst []] = .ok (gR []) := init_ok ok0 _ (.inr rfl)
  obtain ⟨sp, ws⟩ := wordsX h
  have cc : ∀ r : Env, r.length = 3 → rounds_or_none_c1 r ((Txt.split t "x").map D.str) = .ok (((Txt.split t "x").map numR).map oD) := fun r hr => by
    rw [List.map_map]
    unfold rounds_or_none_c1
    refine lcD_gmap D.str (fun w => oD (numR w)) fun w hw => ?_
    have e := number_read_ok (ws w hw)
    match r, hr with
    | [a, b, c], _ =>
      refine ⟨_, rfl, rfl, ?_⟩
      simp [wipeR, nameG, e]
  have ie := init_oD ((Txt.split t "x").map numR)
  have ll : (((Txt.split t "x").map numR).map oD).length ≤ lim := by rw [List.length_map, List.length_map]; have := words_len (y := "x") h; unfold lim; omega
  have it : itemsD (.lst ((Txt.split t "x").map D.str)) = .ok ((Txt.split t "x").map D.str) := rfl
  unfold rdR
  refine runD_rt rfl ?_
  simp only [startD, N_rounds_or_none, List.length_cons, List.length_nil, List.map_cons, List.map_nil, Nat.reduceAdd, Nat.reduceSub, Nat.zero_add, List.replicate, List.cons_append, List.nil_append]
  by_cases c : t = "1"
  · rw [decide_eq_true c] at q
    rw [if_pos c]
    simp [e_rounds_or_none, q, i0]
  · rw [decide_eq_false c] at q
    rw [if_neg c]
    have cc := cc [.sh (.str t), .sh .non, .un] rfl
    have c1 : ctC.contains 11 = true := by decide
    have u1 : ctU.contains 11 = true := by decide
    have v1 : overC 11 11 = true := by decide
    cases hr : roundsR ((Txt.split t "x").map numR) with
    | some rs =>
      rw [hr] at ie
      have ie : d_Rounds_init [.lst (((Txt.split t "x").map numR).map oD)] = .ok (gR rs) := ie
      show _ = Oc.rt (gR rs)
      generalize gR rs = G at *
      generalize ((Txt.split t "x").map numR).map oD = OL at *
      generalize (Txt.split t "x").map D.str = WL at *
      simp [e_rounds_or_none, q, sp, it, cc, ll, lstD, ie, tryD, -itemsD_lst]
    | none =>
      rw [hr] at ie
      have ie : d_Rounds_init [.lst (((Txt.split t "x").map numR).map oD)] = .er (.exc 11 []) := ie
      show _ = Oc.rt .non
      generalize ((Txt.split t "x").map numR).map oD = OL at *
      generalize (Txt.split t "x").map D.str = WL at *
      simp [e_rounds_or_none, q, sp, it, cc, ll, lstD, ie, tryD, catchD, bindI, closeI, clrI, c1, u1, v1, -itemsD_lst, -List.contains_eq_mem]
theorem elB_oD {rs : List Int} {os : List (Option Nat)} : elB rs (.tup (os.map oD)) = true → ∃ x, OkE rs x ∧ os.map oD = x.map D.int := fun h => by
  obtain ⟨x, hx, e⟩ := elB_el h
  injection e with e
  exact ⟨x, hx, e⟩
/-- the element that a text writes -/
def edR (rs : List Int) (t : Str) : Option (List Int) := 
  let os := if t = "-" then [] else (Txt.split t ",").map numR
  if elB rs (.tup (os.map oD)) = true then some (valR os) else none
theorem tup_val {rs : List Int} {os : List (Option Nat)} (h : elB rs (.tup (os.map oD)) = true) : D.tup (os.map oD) = tuI (valR os) ∧ OkE rs (valR os) := by
  obtain ⟨x, hx, e⟩ := elB_oD h
  have e2 : valR os = x := by
    unfold valR
    have : (os.map oD).map (fun d => match d with | .int i => i | _ => 0) = (x.map D.int).map (fun d => match d with | .int i => i | _ => 0) := by rw [e]
    rw [List.map_map, List.map_map] at this
    have e3 : x.map ((fun d : D => match d with | .int i => i | _ => 0) ∘ D.int) = x := by
      have : ((fun d : D => match d with | .int i => i | _ => 0) ∘ D.int) = id := rfl
      rw [this, List.map_id]
    rw [e3] at this
    rw [← this]
    refine List.map_congr_left fun o _ => ?_
    cases o <;> rfl
  rw [e2]
  exact ⟨by rw [e], hx⟩
theorem plain_oD (os : List (Option Nat)) : plainT (.tup (os.map oD)) = true := by
  show (os.map oD).all plainD = true
  rw [List.all_eq_true]
  intro d hd
  obtain ⟨o, _, rfl⟩ := List.mem_map.mp hd
  cases o <;> rfl
theorem el_or_none_ok {rs : List Int} {t : Str} (h : OkS t) : d_element_or_none [gR rs, .str t] = .ok (match edR rs t with | some x => tuI x | none => .non) := by
  have o1 : OkS ("-" : Str) := ⟨by decide +kernel, by decide +kernel⟩
  have q := eq_str h o1
  obtain ⟨sp, ws⟩ := wordsC h
  have cc : ∀ r : Env, r.length = 4 → element_or_none_c1 r ((Txt.split t ",").map D.str) = .ok (((Txt.split t ",").map numR).map oD) := fun r hr => by
    rw [List.map_map]
    unfold element_or_none_c1
    refine lcD_gmap D.str (fun w => oD (numR w)) fun w hw => ?_
    have e := number_read_ok (ws w hw)
    match r, hr with
    | [a, b, c, d], _ =>
      refine ⟨_, rfl, rfl, ?_⟩
      simp [wipeR, nameG, e]
  have ll : (((Txt.split t ",").map numR).map oD).length ≤ lim := by rw [List.length_map, List.length_map]; have := words_len (y := ",") h; unfold lim; omega
  have it : itemsD (.lst ((Txt.split t ",").map D.str)) = .ok ((Txt.split t ",").map D.str) := rfl
  have md : mthD mt_has (gR rs) = .ok (fun ds => d_Rounds_has (gR rs :: ds)) := rfl
  have hh : ∀ os : List (Option Nat), d_Rounds_has [gR rs, .tup (os.map oD)] = .ok (.bl (elB rs (.tup (os.map oD)))) := fun os => has_any (plain_oD os)
  have cc := cc [.sh (gR rs), .sh (.str t), .un, .un] rfl
  have s1 : element_or_none_c1 [.sh (gR rs), .sh (.str t), .un, .un] ((Txt.split t ",").map D.str) = _ := cc
  refine runD_rt rfl ?_
  simp only [startD, N_element_or_none, List.length_cons, List.length_nil, List.map_cons, List.map_nil, Nat.reduceAdd, Nat.reduceSub, Nat.zero_add, List.replicate, List.cons_append, List.nil_append]
  have er : (match edR rs t with | some x => tuI x | none => D.non) = if elB rs (.tup ((if t = "-" then [] else (Txt.split t ",").map numR).map oD)) = true then tuI (valR (if t = "-" then [] else (Txt.split t ",").map numR)) else .non := by
    unfold edR
    dsimp only
    by_cases hb : elB rs (.tup ((if t = "-" then [] else (Txt.split t ",").map numR).map oD)) = true
    · rw [if_pos hb, if_pos hb]
    · rw [if_neg hb, if_neg hb]
  rw [er]
  clear er
  by_cases c : t = "-"
  · rw [decide_eq_true c] at q
    rw [if_pos c]
    have hh := hh []
    have tv := tup_val (rs := rs) (os := [])
    have hh : d_Rounds_has [gR rs, .tup []] = .ok (.bl (elB rs (.tup (List.map oD [])))) := hh
    have tv : elB rs (.tup (List.map oD [])) = true → D.tup [] = tuI (valR []) ∧ OkE rs (valR []) := tv
    generalize elB rs (.tup (List.map oD [])) = bb at *
    generalize tuI (valR []) = VV at *
    generalize gR rs = G at *
    generalize ((Txt.split t ",").map numR).map oD = OL at *
    generalize (Txt.split t ",").map D.str = WL at *
    cases bb
    · simp [e_element_or_none, sp, it, cc, ll, lstD, tupleD, q, md, hh, -itemsD_lst]
    · have tv := (tv rfl).1
      rw [tv] at hh
      simp [e_element_or_none, sp, it, cc, ll, lstD, tupleD, q, md, hh, tv, -itemsD_lst]
  · rw [decide_eq_false c] at q
    rw [if_neg c]
    have hh := hh ((Txt.split t ",").map numR)
    have tv := tup_val (rs := rs) (os := (Txt.split t ",").map numR)
    generalize elB rs (.tup (((Txt.split t ",").map numR).map oD)) = bb at *
    generalize tuI (valR ((Txt.split t ",").map numR)) = VV at *
    generalize gR rs = G at *
    generalize ((Txt.split t ",").map numR).map oD = OL at *
    generalize (Txt.split t ",").map D.str = WL at *
    cases bb
    · simp [e_element_or_none, sp, it, cc, ll, lstD, tupleD, q, md, hh, -itemsD_lst]
    · have tv := (tv rfl).1
      rw [tv] at hh
      simp [e_element_or_none, sp, it, cc, ll, lstD, tupleD, q, md, hh, tv, -itemsD_lst]
theorem tl_num (n : Nat) : tl (Str.ofString (toString ((n : Nat) : Int))) = TL.numL n := TL.tl_num n
def txN (i : Int) : Str := Str.ofString (toString i)
theorem str_num {i : Int} (h0 : 0 ≤ i) (h1 : i < 1000) : strD (.int i) = .ok (.str (txN i)) := by
  show (if bits i < 1920 then Res.ok (D.str (txN i)) else .bad) = _
  rw [if_pos (by have := bits_le (i := i) (by omega); omega)]
theorem numL_small : ∀ n < 1000, (TL.numL n).length ≤ 3 ∧ ¬ (1 < (TL.numL n).length ∧ (TL.numL n).headD 0 = 48) := by decide +kernel
theorem tx_fact {i : Int} (h0 : 0 ≤ i) (h1 : i < 1000) : OkS (txN i) ∧ numR (txN i) = some i.toNat ∧ (∀ c ∈ tl (txN i), 48 ≤ c ∧ c ≤ 57) ∧ (tl (txN i)).length ≤ 3 := by
  obtain ⟨n, rfl⟩ : ∃ n : Nat, i = (n : Int) := ⟨i.toNat, by omega⟩
  have et : tl (txN (n : Int)) = TL.numL n := tl_num n
  obtain ⟨l3, nz⟩ := numL_small n (by omega)
  have dg := TL.numL_digits n
  have l1 : 1 ≤ (TL.numL n).length := List.length_pos_iff.mpr (TL.numL_ne n)
  refine ⟨⟨by rw [tl_len, et]; omega, fun c hc => by rw [et] at hc; have := dg c hc; omega⟩, ?_, fun c hc => by rw [et] at hc; exact dg c hc, by rw [et]; exact l3⟩
  unfold numR
  rw [et, if_pos ⟨⟨l1, l3⟩, nz, List.all_eq_true.mpr fun c hc => decide_eq_true (dg c hc)⟩, TL.numL_val, Int.toNat_natCast]
theorem join_okT {s : Str} {ys : List Str} (h : (ys.map Str.length).sum + ys.length * s.length ≤ 16777216) : joinD (.str s) (.lst (ys.map D.str)) = .ok (.str (Txt.join s ys)) := by
  show (match strsOf (ys.map D.str) with | some ys => if (ys.map Str.length).sum + ys.length * s.length ≤ 16777216 then Res.ok (D.str (Txt.join s ys)) else .bad | none => .bad) = _
  rw [strsOf_map]
  exact if_pos h
theorem sum_le_mul {α : Type} (f : α → Nat) {k : Nat} : ∀ {xs : List α}, (∀ x ∈ xs, f x ≤ k) → (xs.map f).sum ≤ xs.length * k
  | [], _ => by simp
  | x :: xs, h => by
    have h1 := h x (List.mem_cons_self ..)
    have h2 := sum_le_mul f (xs := xs) fun y hy => h y (List.mem_cons_of_mem _ hy)
    rw [List.map_cons, List.sum_cons, List.length_cons, Nat.succ_mul]
    omega
theorem joinL_in (S : List Nat) : ∀ (ps : List (List Nat)), (TL.joinL S ps).length ≤ (ps.map (·.length)).sum + ps.length * S.length ∧ ∀ c ∈ TL.joinL S ps, c ∈ S ∨ ∃ p ∈ ps, c ∈ p
  | [] => by unfold TL.joinL; simp
  | [p] => by unfold TL.joinL; exact ⟨by simp, fun c hc => .inr ⟨p, List.mem_cons_self .., hc⟩⟩
  | p :: q :: r => by
    obtain ⟨h1, h2⟩ := joinL_in S (q :: r)
    unfold TL.joinL
    refine ⟨?_, fun c hc => ?_⟩
    · simp only [List.length_append, List.map_cons, List.sum_cons, List.length_cons, Nat.succ_mul] at h1 ⊢
      omega
    · rcases List.mem_append.mp hc with h | h
      · exact .inr ⟨p, List.mem_cons_self .., h⟩
      · rcases List.mem_append.mp h with h | h
        · exact .inl h
        · rcases h2 c h with h | ⟨p', hp, h⟩
          · exact .inl h
          · exact .inr ⟨p', List.mem_cons_of_mem _ hp, h⟩
/-- a row of numbers by a sign -/
def rowT (s : Str) (xs : List Int) : Str := Txt.join s (xs.map txN)
theorem row_tl (s : Str) (xs : List Int) : tl (rowT s xs) = TL.joinL (tl s) ((xs.map txN).map tl) := by
  unfold rowT
  rw [TL.join_eq]
  exact TL.tl_join s _
theorem row_ok {s : Str} {xs : List Int} (hs : s.length = 1) (hc : ∀ c ∈ tl s, c < 256) (hx : ∀ i ∈ xs, 0 ≤ i ∧ i < 1000) (hl : xs.length ≤ 7) : joinD (.str s) (.lst (xs.map fun i => D.str (txN i))) = .ok (.str (rowT s xs)) ∧ OkS (rowT s xs) ∧ (tl (rowT s xs)).length ≤ xs.length * 4 := by
  have e : xs.map (fun i => D.str (txN i)) = (xs.map txN).map D.str := by rw [List.map_map]; rfl
  have hsum : ((xs.map txN).map Str.length).sum ≤ xs.length * 3 := by
    rw [List.map_map]
    exact sum_le_mul _ fun i hi => by
      show (txN i).length ≤ 3
      rw [tl_len]
      exact (tx_fact (hx i hi).1 (hx i hi).2).2.2.2
  have ln : (xs.map txN).length = xs.length := List.length_map ..
  obtain ⟨j1, j2⟩ := joinL_in (tl s) ((xs.map txN).map tl)
  have e3 : (((xs.map txN).map tl).map List.length).sum = ((xs.map txN).map Str.length).sum := by
    rw [List.map_map]
    congr 1
  have sl : (tl s).length = 1 := by rw [← tl_len]; exact hs
  rw [e3, sl, List.length_map, ln] at j1
  have l4 : (tl (rowT s xs)).length ≤ xs.length * 4 := by rw [row_tl]; omega
  refine ⟨?_, ⟨by rw [tl_len]; omega, fun c hcm => ?_⟩, l4⟩
  · rw [e, join_okT (by rw [ln, hs]; omega)]
    rfl
  · rw [row_tl] at hcm
    rcases j2 c hcm with h | ⟨p, hp, h⟩
    · exact hc c h
    · obtain ⟨w, hw, rfl⟩ := List.mem_map.mp hp
      obtain ⟨i, hi, rfl⟩ := List.mem_map.mp hw
      have := (tx_fact (hx i hi).1 (hx i hi).2).2.2.1 c h
      omega
/-- read back -/
theorem row_back {s : Str} {k : Nat} (hs : tl s = [k]) (hk : k < 48 ∨ 57 < k) (h256 : k < 256) {xs : List Int} (hx : ∀ i ∈ xs, 0 ≤ i ∧ i < 1000) (hne : xs ≠ []) : (Txt.split (rowT s xs) s).map numR = xs.map fun i => some i.toNat := by
  unfold rowT
  rw [TL.split_join (y := s) (s := k) (S := []) hs (by
    rw [Array.all_eq_true_iff_forall_mem]
    intro c hc
    have : c ∈ tl s := Array.mem_toList_iff.mpr hc
    rw [hs, List.mem_singleton] at this
    simp
    omega) (by simpa using hne) (fun p hp hm => by
    obtain ⟨i, hi, rfl⟩ := List.mem_map.mp hp
    have := (tx_fact (hx i hi).1 (hx i hi).2).2.2.1 k hm
    omega), List.map_map]
  exact List.map_congr_left fun i hi => (tx_fact (hx i hi).1 (hx i hi).2).2.1
/-- an element, a group's rounds as texts -/
def elT (x : List Int) : Str := if x = [] then "-" else rowT "," x
def rsT (x : List Int) : Str := if x = [] then "1" else rowT "x" x
theorem elT_ok {x : List Int} (hx : ∀ i ∈ x, 0 ≤ i ∧ i < 1000) (hl : x.length ≤ 7) : OkS (elT x) ∧ (tl (elT x)).length ≤ 1 + x.length * 4 := by
  unfold elT
  split
  · exact ⟨⟨by decide +kernel, by decide +kernel⟩, by rw [show tl ("-" : Str) = [45] by decide +kernel]; simp⟩
  · obtain ⟨_, b, c⟩ := row_ok (s := ",") (by decide +kernel) (by decide +kernel) hx hl
    exact ⟨b, by omega⟩
theorem rsT_ok {x : List Int} (hx : ∀ i ∈ x, 0 ≤ i ∧ i < 1000) (hl : x.length ≤ 7) : OkS (rsT x) ∧ (tl (rsT x)).length ≤ 1 + x.length * 4 := by
  unfold rsT
  split
  · exact ⟨⟨by decide +kernel, by decide +kernel⟩, by rw [show tl ("1" : Str) = [49] by decide +kernel]; simp⟩
  · obtain ⟨_, b, c⟩ := row_ok (s := "x") (by decide +kernel) (by decide +kernel) hx hl
    exact ⟨b, by omega⟩
theorem q_el_text {x : List Int} (hx : ∀ i ∈ x, 0 ≤ i ∧ i < 1000) (hl : x.length ≤ 7) : d_q_text [tuI x] = .ok (.str (elT x)) := by
  have ln : lenD (tuI x) = .ok (.int (x.length : Nat)) := by simp [lenD, tuI]
  have it : itemsD (tuI x) = .ok (x.map D.int) := rfl
  have cc : ∀ r : Env, r.length = 2 → q_text_c1 r (x.map D.int) = .ok (x.map fun i => D.str (txN i)) := fun r hr => by
    unfold q_text_c1
    refine lcD_gmap D.int (fun i => D.str (txN i)) fun i hi => ?_
    have e := str_num (hx i hi).1 (hx i hi).2
    match r, hr with
    | [a, b], _ =>
      refine ⟨_, rfl, rfl, ?_⟩
      simp [wipeR, nameG, e, -strD]
  have cc := cc [.sh (tuI x), .un] rfl
  obtain ⟨j, _, _⟩ := row_ok (s := ",") (by decide +kernel) (by decide +kernel) hx hl
  have ll : (x.map fun i => D.str (txN i)).length ≤ lim := by rw [List.length_map]; unfold lim; omega
  refine runD_rt rfl ?_
  simp only [startD, N_q_text, List.length_cons, List.length_nil, List.map_cons, List.map_nil, Nat.reduceAdd, Nat.reduceSub, Nat.zero_add, List.replicate, List.cons_append, List.nil_append]
  unfold elT
  by_cases h : x = []
  · rw [if_pos h]
    subst h
    have ln : lenD (tuI []) = .ok (.int 0) := rfl
    generalize tuI [] = X at *
    simp [e_q_text, ln]
  · rw [if_neg h]
    have hq : eqD (.int (x.length : Nat)) (.int 0) = .ok (.bl false) := by
      rw [eqD_int, decide_eq_false]
      have := List.length_pos_iff.mpr h
      omega
    generalize x.map (fun i => D.str (txN i)) = TX at *
    generalize x.map D.int = IX at *
    generalize tuI x = X at *
    generalize ((x.length : Nat) : Int) = LN at *
    simp [e_q_text, ln, hq, it, cc, ll, lstD, j, -eqD_int]
theorem q_rs_text {x : List Int} (hx : ∀ i ∈ x, 0 ≤ i ∧ i < 1000) (hl : x.length ≤ 7) : d_q_rounds_text [tuI x] = .ok (.str (rsT x)) := by
  have ln : lenD (tuI x) = .ok (.int (x.length : Nat)) := by simp [lenD, tuI]
  have it : itemsD (tuI x) = .ok (x.map D.int) := rfl
  have cc : ∀ r : Env, r.length = 2 → q_rounds_text_c1 r (x.map D.int) = .ok (x.map fun i => D.str (txN i)) := fun r hr => by
    unfold q_rounds_text_c1
    refine lcD_gmap D.int (fun i => D.str (txN i)) fun i hi => ?_
    have e := str_num (hx i hi).1 (hx i hi).2
    match r, hr with
    | [a, b], _ =>
      refine ⟨_, rfl, rfl, ?_⟩
      simp [wipeR, nameG, e, -strD]
  have cc := cc [.sh (tuI x), .un] rfl
  obtain ⟨j, _, _⟩ := row_ok (s := "x") (by decide +kernel) (by decide +kernel) hx hl
  have ll : (x.map fun i => D.str (txN i)).length ≤ lim := by rw [List.length_map]; unfold lim; omega
  refine runD_rt rfl ?_
  simp only [startD, N_q_rounds_text, List.length_cons, List.length_nil, List.map_cons, List.map_nil, Nat.reduceAdd, Nat.reduceSub, Nat.zero_add, List.replicate, List.cons_append, List.nil_append]
  unfold rsT
  by_cases h : x = []
  · rw [if_pos h]
    subst h
    have ln : lenD (tuI []) = .ok (.int 0) := rfl
    generalize tuI [] = X at *
    simp [e_q_rounds_text, ln]
  · rw [if_neg h]
    have hq : eqD (.int (x.length : Nat)) (.int 0) = .ok (.bl false) := by
      rw [eqD_int, decide_eq_false]
      have := List.length_pos_iff.mpr h
      omega
    generalize x.map (fun i => D.str (txN i)) = TX at *
    generalize x.map D.int = IX at *
    generalize tuI x = X at *
    generalize ((x.length : Nat) : Int) = LN at *
    simp [e_q_rounds_text, ln, hq, it, cc, ll, lstD, j, -eqD_int]
/-- rounds and elements that are written are read again -/
theorem rdR_back {rs : List Int} (g : OkG rs) : rdR (rsT rs) = some rs := by
  have hx : ∀ i ∈ rs, 0 ≤ i ∧ i < 1000 := fun i hi => by
    have := g.ok.two i hi
    have := g.most i hi
    omega
  unfold rdR rsT
  by_cases h : rs = []
  · rw [if_pos h, if_pos rfl, h]
  · rw [if_neg h]
    have ne : rowT "x" rs ≠ "1" := fun e => by
      have e2 : (Txt.split (rowT "x" rs) "x").map numR = (Txt.split ("1" : Str) "x").map numR := by rw [e]
      rw [row_back x_tl (by omega) (by omega) hx h, show (Txt.split ("1" : Str) "x").map numR = [some 1] by decide +kernel] at e2
      match rs, h with
      | a :: r, _ =>
        rw [List.map_cons] at e2
        injection e2 with e3 _
        injection e3 with e3
        have := g.ok.two a (List.mem_cons_self ..)
        omega
    rw [if_neg ne, row_back x_tl (by omega) (by omega) hx h]
    have vv : valR (rs.map fun i => some i.toNat) = rs := by
      unfold valR
      rw [List.map_map]
      conv => rhs; rw [← List.map_id rs]
      refine List.map_congr_left fun i hi => ?_
      show ((i.toNat : Nat) : Int) = i
      have := (hx i hi).1
      omega
    have pp : prodO (rs.map fun i => some i.toNat) = rs.foldl (· * ·) 1 := by
      show (valR (rs.map fun i => some i.toNat)).foldl (· * ·) 1 = _
      rw [vv]
    unfold roundsR
    have ga : (rs.map fun i => some i.toNat).all good2 = true := by
      rw [List.all_eq_true]
      intro o ho
      obtain ⟨i, hi, rfl⟩ := List.mem_map.mp ho
      have := g.ok.two i hi
      exact decide_eq_true (by omega)
    rw [if_pos ⟨by rw [List.length_map]; exact g.ok.len, ga, by rw [pp]; exact g.prod⟩, vv]
theorem trs_blT {α : Type} (f : α → Bool) : ∀ l : List α, trsD (l.map fun p => D.bl (f p)) = some (l.map f)
  | [] => rfl
  | a :: l => by
    rw [List.map_cons, List.map_cons]
    unfold trsD
    rw [trs_blT f l]
    rfl
theorem all_blT {α : Type} (l : List α) (f : α → Bool) : allT (.lst (l.map fun p => D.bl (f p))) = .ok (.bl (l.all f)) := by
  unfold allT
  simp only [trs_blT]
  simp [List.all_map]
theorem q_number_ok {w : Str} (h : OkS w) : d_q_number_read [.str w] = .ok (oD (numR w)) := by
  have ln := len_str h
  have lt1 : ltD (.int ((tl w).length : Nat)) (.int 1) = .ok (.bl (decide ((tl w).length < 1))) := by
    rw [ltD_int]; congr 2; exact decide_eq_decide.mpr (by omega)
  have gt3 : gtD (.int ((tl w).length : Nat)) (.int 3) = .ok (.bl (decide (3 < (tl w).length))) := by
    rw [gtD_int]; congr 2; exact decide_eq_decide.mpr (by omega)
  have gt1 : gtD (.int ((tl w).length : Nat)) (.int 1) = .ok (.bl (decide (1 < (tl w).length))) := by
    rw [gtD_int]; congr 2; exact decide_eq_decide.mpr (by omega)
  have it := signs_tl w
  have cc : ∀ r : Env, r.length = 2 → q_number_read_c1 r ((tl w).map fun c => D.str ⟨#[c]⟩) = .ok ((tl w).map fun c => D.bl (isFig c)) := fun r hr => by
    unfold q_number_read_c1
    refine lcD_gmap (fun c => D.str ⟨#[c]⟩) (fun c => D.bl (isFig c)) fun c hc => ?_
    have e := in_fig c
    match r, hr with
    | [a, b], _ =>
      refine ⟨_, rfl, rfl, ?_⟩
      simp [wipeR, nameG, e]
  have cc := cc [.sh (.str w), .un] rfl
  have al := all_blT (tl w) isFig
  have ll : ((tl w).map fun c => D.bl (isFig c)).length ≤ lim := by rw [List.length_map, ← tl_len]; have := h.len; unfold lim; omega
  unfold numR
  by_cases c1 : 1 ≤ (tl w).length ∧ (tl w).length ≤ 3
  · rw [decide_eq_false (show ¬ (tl w).length < 1 by omega)] at lt1
    rw [decide_eq_false (show ¬ 3 < (tl w).length by omega)] at gt3
    by_cases c2 : 1 < (tl w).length ∧ (tl w).headD 0 = 48
    · rw [if_neg (fun z => z.2.1 c2)]
      have ix := ix_head h c1.1
      have hq := head_eq h c1.1
      rw [decide_eq_true c2.2] at hq
      rw [decide_eq_true c2.1] at gt1
      refine runD_rt rfl ?_
      simp only [startD, N_q_number_read, List.length_cons, List.length_nil, List.map_cons, List.map_nil, Nat.reduceAdd, Nat.reduceSub, Nat.zero_add, List.replicate, List.cons_append, List.nil_append]
      generalize D.str ⟨#[(tl w).headD 0]⟩ = hs at *
      generalize (((tl w).length : Nat) : Int) = LN at *
      simp [e_q_number_read, ln, lt1, gt3, gt1, ix, hq, -ltD_int, -gtD_int]
      rfl
    · have pre : ((gtD (.int ((tl w).length : Nat)) (.int 1) >>= asB) >>= fun t => if t = true then ((ixD (.str w) (.int 0) >>= fun x => eqD x (.str "0")) >>= asB) else .ok false) = .ok false := by
        rw [gt1]
        by_cases c3 : 1 < (tl w).length
        · have hq := head_eq h c1.1
          rw [decide_eq_false (fun z => c2 ⟨c3, z⟩)] at hq
          rw [decide_eq_true c3, ix_head h c1.1]
          show (eqD (.str ⟨#[(tl w).headD 0]⟩) (.str "0") >>= asB) = _
          rw [hq]
          rfl
        · rw [decide_eq_false c3]
          rfl
      have hcond : ∀ t : Bool, (tl w).all isFig = t → e_q_number_read [.sh (.str w), .un] = .rt (oD (if t = true then some (NumText.digitsVal (tl w)) else none)) := fun t ht => by
        rw [ht] at al
        cases t
        · show _ = Oc.rt .non
          generalize ((tl w).map fun c => D.str ⟨#[c]⟩) = SG at *
          generalize ((tl w).map fun c => D.bl (isFig c)) = BG at *
          generalize (((tl w).length : Nat) : Int) = LN at *
          simp only [e_q_number_read]
          refine seq_nx (r1 := [.sh (.str w), .un]) ?_ ?_
          · simp [ln, lt1, gt3, pre, -ltD_int, -gtD_int]
          · simp [it, cc, al, ll, lstD]
        · have ir := int_read c1.2 c1.1 ht
          show _ = Oc.rt (.int (NumText.digitsVal (tl w) : Nat))
          generalize ((NumText.digitsVal (tl w) : Nat) : Int) = VV at *
          generalize ((tl w).map fun c => D.str ⟨#[c]⟩) = SG at *
          generalize ((tl w).map fun c => D.bl (isFig c)) = BG at *
          generalize (((tl w).length : Nat) : Int) = LN at *
          simp only [e_q_number_read]
          refine seq_nx (r1 := [.sh (.str w), .un]) ?_ ?_
          · simp [ln, lt1, gt3, pre, -ltD_int, -gtD_int]
          · simp [it, cc, al, ll, lstD, ir, -intD]
      refine runD_rt rfl ?_
      simp only [startD, N_q_number_read, List.length_cons, List.length_nil, List.map_cons, List.map_nil, Nat.reduceAdd, Nat.reduceSub, Nat.zero_add, List.replicate, List.cons_append, List.nil_append]
      rw [hcond _ rfl]
      congr 2
      by_cases c3 : (tl w).all isFig = true
      · rw [if_pos c3, if_pos ⟨c1, c2, c3⟩]
      · rw [if_neg c3, if_neg (fun z => c3 z.2.2)]
  · rw [if_neg (fun z => c1 z.1)]
    refine runD_rt rfl ?_
    simp only [startD, N_q_number_read, List.length_cons, List.length_nil, List.map_cons, List.map_nil, Nat.reduceAdd, Nat.reduceSub, Nat.zero_add, List.replicate, List.cons_append, List.nil_append]
    show _ = Oc.rt .non
    by_cases c2 : (tl w).length < 1
    · rw [decide_eq_true c2] at lt1
      generalize (((tl w).length : Nat) : Int) = LN at *
      simp [e_q_number_read, ln, lt1, -ltD_int, -gtD_int]
    · rw [decide_eq_false c2] at lt1
      rw [decide_eq_true (show 3 < (tl w).length by omega)] at gt3
      generalize (((tl w).length : Nat) : Int) = LN at *
      simp [e_q_number_read, ln, lt1, gt3, -ltD_int, -gtD_int]
def dueD : Option (List Int) → D
  | some x => tuI x
  | none => .non
theorem prod_step (m n : Int) (os : List (Option Nat)) : m * prodO (some n.toNat :: os) = m * ((n.toNat : Nat) : Int) * prodO os := by
  unfold prodO
  rw [List.map_cons, List.foldl_cons, Int.one_mul, Int.mul_assoc]
  congr 1
  generalize (os.map fun o => ((o.getD 0 : Nat) : Int)) = l
  show l.foldl (· * ·) ((n.toNat : Nat) : Int) = ((n.toNat : Nat) : Int) * l.foldl (· * ·) 1
  have : ∀ (l : List Int) (a b : Int), l.foldl (· * ·) (a * b) = a * l.foldl (· * ·) b := fun l => by
    induction l with
    | nil => exact fun _ _ => rfl
    | cons c l ih => intro a b; rw [List.foldl_cons, List.foldl_cons, Int.mul_assoc, ih]
  have := this l ((n.toNat : Nat) : Int) 1
  rw [Int.mul_one] at this
  exact this
theorem numR_lt {w : Str} {n : Nat} (h : numR w = some n) : n < 1000 := by
  unfold numR at h
  split at h
  · rename_i c
    injection h with h
    subst h
    obtain ⟨⟨_, h3⟩, _, hd⟩ := c
    generalize tl w = l at *
    have st : ∀ (l : List Nat) (a : Nat), (l.all isFig = true) → l.foldl (fun acc c => acc * 10 + (c - 48)) a < (a + 1) * 10 ^ l.length := fun l => by
      induction l with
      | nil => intro a _; simp
      | cons c l ih =>
        intro a ha
        rw [List.all_cons, Bool.and_eq_true] at ha
        have hc : 48 ≤ c ∧ c ≤ 57 := of_decide_eq_true ha.1
        have := ih (a * 10 + (c - 48)) ha.2
        rw [List.foldl_cons, List.length_cons, Nat.pow_succ]
        have e : (a * 10 + (c - 48) + 1) * 10 ^ l.length ≤ ((a + 1) * 10) * 10 ^ l.length := Nat.mul_le_mul_right _ (by omega)
        have e2 : (a + 1) * 10 * 10 ^ l.length = (a + 1) * (10 ^ l.length * 10) := by rw [Nat.mul_assoc, Nat.mul_comm 10]
        omega
    have h4 := st l 0 hd
    rw [Nat.zero_add, Nat.one_mul] at h4
    have h5 : 10 ^ l.length ≤ 10 ^ 3 := Nat.pow_le_pow_right (by omega) h3
    exact Nat.lt_of_lt_of_le h4 h5
  · cases h
theorem qr_loop (T F : D) (s4 : Slot) : ∀ (os : List (Option Nat)), (∀ n, some n ∈ os → n < 1000) → ∀ (m : Int) (s : Slot), (os.all good2 = true → ∃ s', forD q_rounds_read_l2 (os.map oD) [.sh T, .sh F, .sh (.int m), s, s4] = .nx [.sh T, .sh F, .sh (.int (m * prodO os)), s', s4]) ∧ (os.all good2 = false → forD q_rounds_read_l2 (os.map oD) [.sh T, .sh F, .sh (.int m), s, s4] = .rt .non)
  | [], _, m, s => ⟨fun _ => ⟨s, by unfold prodO; simp⟩, fun h => by simp at h⟩
  | o :: os, hb, m, s => by
    by_cases g : good2 o = true
    · match o, g, hb with
      | some n, g, hb =>
        have g' : 2 ≤ n := of_decide_eq_true g
        have n3 := hb n (List.mem_cons_self ..)
        have lt : ltD (.int (n : Int)) (.int 2) = .ok (.bl false) := by rw [ltD_int, decide_eq_false (by omega)]
        have is : isN (.int (n : Int)) .non = .ok (.bl false) := rfl
        have mu : mulD (.int m) (.int (n : Int)) = .ok (.int (m * (n : Int))) := mulD_small (.inr ⟨by omega, by omega⟩)
        have st : q_rounds_read_l2 (.int (n : Int)) [.sh T, .sh F, .sh (.int m), s, s4] = .nx [.sh T, .sh F, .sh (.int (m * (n : Int))), .sh (.int (n : Int)), s4] := by
          generalize m * (n : Int) = mn at *
          generalize (n : Int) = ni at *
          simp [q_rounds_read_l2, nameG, is, lt, mu, -ltD_int]
        obtain ⟨i1, i2⟩ := qr_loop T F s4 os (fun k hk => hb k (List.mem_cons_of_mem _ hk)) (m * (n : Int)) (.sh (.int (n : Int)))
        rw [List.map_cons, forD_cons, show oD (some n) = .int (n : Int) from rfl, st, List.all_cons, g, Bool.true_and]
        refine ⟨fun h => ?_, i2⟩
        obtain ⟨s', e⟩ := i1 h
        refine ⟨s', ?_⟩
        have ep := prod_step m (n : Int) os
        rw [Int.toNat_natCast] at ep
        rw [ep]
        exact e
    · have g : good2 o = false := by simpa using g
      have st : q_rounds_read_l2 (oD o) [.sh T, .sh F, .sh (.int m), s, s4] = .rt .non := by
        match o, g with
        | none, _ =>
          have is : isN .non .non = .ok (.bl true) := rfl
          show q_rounds_read_l2 .non _ = _
          simp [q_rounds_read_l2, nameG, is]
        | some n, g =>
          have g : ¬ 2 ≤ n := of_decide_eq_false g
          have is : isN (.int (n : Int)) .non = .ok (.bl false) := rfl
          have lt : ltD (.int (n : Int)) (.int 2) = .ok (.bl true) := by rw [ltD_int, decide_eq_true (by omega)]
          show q_rounds_read_l2 (.int (n : Int)) _ = _
          generalize (n : Int) = ni at *
          simp [q_rounds_read_l2, nameG, is, lt, -ltD_int]
      rw [List.map_cons, forD_cons, st, List.all_cons, g, Bool.false_and]
      exact ⟨fun h => (by cases h), fun _ => rfl⟩
theorem q_rounds_read_ok {t : Str} (h : OkS t) : d_q_rounds_read [.str t] = .ok (dueD (rdR t)) := by
  have o1 : OkS ("1" : Str) := ⟨by decide +kernel, by decide +kernel⟩
  have q := eq_str h o1
  obtain ⟨sp, ws⟩ := wordsX h
  have cc : ∀ r : Env, r.length = 5 → q_rounds_read_c1 r ((Txt.split t "x").map D.str) = .ok (((Txt.split t "x").map numR).map oD) := fun r hr => by
    rw [List.map_map]
    unfold q_rounds_read_c1
    refine lcD_gmap D.str (fun w => oD (numR w)) fun w hw => ?_
    have e := q_number_ok (ws w hw)
    match r, hr with
    | [a, b, c, d, f], _ =>
      refine ⟨_, rfl, rfl, ?_⟩
      simp [wipeR, nameG, e]
  have cc := cc [.sh (.str t), .un, .un, .un, .un] rfl
  have l2 : (((Txt.split t "x").map numR).map oD).length = ((Txt.split t "x").map numR).length := List.length_map ..
  have ll : (((Txt.split t "x").map numR).map oD).length ≤ lim := by rw [l2, List.length_map]; have := words_len (y := "x") h; unfold lim; omega
  have it : itemsD (.lst ((Txt.split t "x").map D.str)) = .ok ((Txt.split t "x").map D.str) := rfl
  have hb : ∀ n, some n ∈ (Txt.split t "x").map numR → n < 1000 := fun n hn => by
    obtain ⟨w, _, e⟩ := List.mem_map.mp hn
    exact numR_lt e
  have ln : lenD (.tup (((Txt.split t "x").map numR).map oD)) = .ok (.int (((Txt.split t "x").map numR).length : Nat)) := by
    rw [lenD_tup, l2]
  have it2 : itemsD (.tup (((Txt.split t "x").map numR).map oD)) = .ok (((Txt.split t "x").map numR).map oD) := rfl
  have tu : tupleD (.lst (((Txt.split t "x").map numR).map oD)) = .ok (.tup (((Txt.split t "x").map numR).map oD)) := rfl
  unfold rdR
  refine runD_rt rfl ?_
  simp only [startD, N_q_rounds_read, List.length_cons, List.length_nil, List.map_cons, List.map_nil, Nat.reduceAdd, Nat.reduceSub, Nat.zero_add, List.replicate, List.cons_append, List.nil_append]
  by_cases c : t = "1"
  · rw [decide_eq_true c] at q
    rw [if_pos c]
    simp [e_q_rounds_read, q]
    rfl
  · rw [decide_eq_false c] at q
    rw [if_neg c]
    generalize hos : (Txt.split t "x").map numR = os at *
    obtain ⟨i1, i2⟩ := qr_loop (.str t) (.tup (os.map oD)) .un os hb 1 .un
    by_cases h2 : os.all good2 = true
    · obtain ⟨s', e⟩ := i1 h2
      rw [Int.one_mul] at e
      cases hr : roundsR os with
      | some rs =>
        obtain ⟨_, eo, _, hp, h7⟩ := roundsR_ok hr
        have g7 : gtD (.int (os.length : Nat)) (.int 7) = .ok (.bl false) := by rw [gtD_int, decide_eq_false (by omega)]
        have gp : gtD (.int (prodO os)) (.int 144) = .ok (.bl false) := by rw [gtD_int, decide_eq_false (by omega)]
        have et : D.tup (os.map oD) = tuI rs := by rw [eo]
        show _ = Oc.rt (tuI rs)
        rw [et] at e ln it2 tu
        generalize tuI rs = R at *
        generalize prodO os = P at *
        generalize os.map oD = OL at *
        generalize (Txt.split t "x").map D.str = WL at *
        generalize ((os.length : Nat) : Int) = LN at *
        simp [e_q_rounds_read, q, sp, it, cc, ll, lstD, tu, it2, e, ln, g7, gp, -itemsD_lst, -tupleD, -gtD_int, -itemsD_tup]
      | none =>
        have gg : ((gtD (.int (os.length : Nat)) (.int 7) >>= asB) >>= fun t => if t = true then .ok true else gtD (.int (prodO os)) (.int 144) >>= asB) = .ok true := by
          rw [gtD_int, gtD_int]
          by_cases h7 : os.length ≤ 7
          · have hp : ¬ prodO os ≤ 144 := fun hp => by
              unfold roundsR at hr
              rw [if_pos ⟨h7, h2, hp⟩] at hr
              cases hr
            rw [decide_eq_false (by omega), decide_eq_true (by omega)]
            rfl
          · rw [decide_eq_true (by omega)]
            rfl
        show _ = Oc.rt .non
        generalize prodO os = P at *
        generalize os.map oD = OL at *
        generalize (Txt.split t "x").map D.str = WL at *
        generalize ((os.length : Nat) : Int) = LN at *
        simp [e_q_rounds_read, q, sp, it, cc, ll, lstD, tu, it2, e, ln, gg, -itemsD_lst, -tupleD, -gtD_int, -itemsD_tup, -lenD_tup]
    · have h2 : os.all good2 = false := by simpa using h2
      have e := i2 h2
      have hr : roundsR os = none := by
        unfold roundsR
        rw [if_neg (fun z => by rw [h2] at z; cases z.2.1)]
      rw [hr]
      show _ = Oc.rt .non
      generalize os.map oD = OL at *
      generalize (Txt.split t "x").map D.str = WL at *
      simp [e_q_rounds_read, q, sp, it, cc, ll, lstD, tu, it2, e, -itemsD_lst, -tupleD, -itemsD_tup]
theorem qe_loop (R T F : D) (s5 : Slot) : ∀ (os : List (Option Nat)) (rs : List Int) (s3 s4 : Slot), (((os.map oD).zip rs).all (fun p => inB p.1 p.2) = true → ∃ s3' s4', forD q_element_read_l2 (zipL2 (os.map oD) (rs.map D.int)) [.sh R, .sh T, .sh F, s3, s4, s5] = .nx [.sh R, .sh T, .sh F, s3', s4', s5]) ∧ (((os.map oD).zip rs).all (fun p => inB p.1 p.2) = false → forD q_element_read_l2 (zipL2 (os.map oD) (rs.map D.int)) [.sh R, .sh T, .sh F, s3, s4, s5] = .rt .non)
  | [], _, s3, s4 => ⟨fun _ => ⟨s3, s4, rfl⟩, fun h => by simp at h⟩
  | _ :: _, [], s3, s4 => ⟨fun _ => ⟨s3, s4, rfl⟩, fun h => by simp at h⟩
  | o :: os, n :: rs, s3, s4 => by
    have zz : zipL2 ((o :: os).map oD) ((n :: rs).map D.int) = .tup [oD o, .int n] :: zipL2 (os.map oD) (rs.map D.int) := rfl
    have za : (((o :: os).map oD).zip (n :: rs)).all (fun p => inB p.1 p.2) = (inB (oD o) n && ((os.map oD).zip rs).all (fun p => inB p.1 p.2)) := rfl
    rw [zz, za, forD_cons]
    by_cases g : inB (oD o) n = true
    · match o, g with
      | some k, g =>
        have g' : (k : Int) < n := by
          have g : (decide (0 ≤ (k : Int)) && decide ((k : Int) < n)) = true := g
          rw [Bool.and_eq_true] at g
          exact of_decide_eq_true g.2
        have is : isN (.int (k : Int)) .non = .ok (.bl false) := rfl
        have ge : geD (.int (k : Int)) (.int n) = .ok (.bl false) := by rw [geD_int, decide_eq_false (by omega)]
        have st : q_element_read_l2 (.tup [.int (k : Int), .int n]) [.sh R, .sh T, .sh F, s3, s4, s5] = .nx [.sh R, .sh T, .sh F, .sh (.int (k : Int)), .sh (.int n), s5] := by
          generalize (k : Int) = ki at *
          simp [q_element_read_l2, tupG, consG, nilG, nameG, is, ge, -geD_int]
        obtain ⟨i1, i2⟩ := qe_loop R T F s5 os rs (.sh (.int (k : Int))) (.sh (.int n))
        rw [show oD (some k) = .int (k : Int) from rfl] at g ⊢
        rw [st, g, Bool.true_and]
        exact ⟨i1, i2⟩
    · have g : inB (oD o) n = false := by simpa using g
      have st : q_element_read_l2 (.tup [oD o, .int n]) [.sh R, .sh T, .sh F, s3, s4, s5] = .rt .non := by
        match o, g with
        | none, _ =>
          have is : isN .non .non = .ok (.bl true) := rfl
          show q_element_read_l2 (.tup [.non, .int n]) _ = _
          simp [q_element_read_l2, tupG, consG, nilG, nameG, is]
        | some k, g =>
          have g' : ¬ (k : Int) < n := fun z => by
            have g : (decide (0 ≤ (k : Int)) && decide ((k : Int) < n)) = false := g
            rw [decide_eq_true (by omega), decide_eq_true z] at g
            cases g
          have is : isN (.int (k : Int)) .non = .ok (.bl false) := rfl
          have ge : geD (.int (k : Int)) (.int n) = .ok (.bl true) := by rw [geD_int, decide_eq_true (by omega)]
          show q_element_read_l2 (.tup [.int (k : Int), .int n]) _ = _
          generalize (k : Int) = ki at *
          simp [q_element_read_l2, tupG, consG, nilG, nameG, is, ge, -geD_int]
      rw [st, g, Bool.false_and]
      exact ⟨fun h => (by cases h), fun _ => rfl⟩
theorem q_element_read_ok {rs : List Int} {t : Str} (h : OkS t) : d_q_element_read [tuI rs, .str t] = .ok (dueD (edR rs t)) := by
  have o1 : OkS ("-" : Str) := ⟨by decide +kernel, by decide +kernel⟩
  have q := eq_str h o1
  obtain ⟨sp, ws⟩ := wordsC h
  have cc : ∀ r : Env, r.length = 6 → q_element_read_c1 r ((Txt.split t ",").map D.str) = .ok (((Txt.split t ",").map numR).map oD) := fun r hr => by
    rw [List.map_map]
    unfold q_element_read_c1
    refine lcD_gmap D.str (fun w => oD (numR w)) fun w hw => ?_
    have e := q_number_ok (ws w hw)
    match r, hr with
    | [a, b, c, d, f, g], _ =>
      refine ⟨_, rfl, rfl, ?_⟩
      simp [wipeR, nameG, e]
  have cc := cc [.sh (tuI rs), .sh (.str t), .un, .un, .un, .un] rfl
  have ll : (((Txt.split t ",").map numR).map oD).length ≤ lim := by rw [List.length_map, List.length_map]; have := words_len (y := ",") h; unfold lim; omega
  have it : itemsD (.lst ((Txt.split t ",").map D.str)) = .ok ((Txt.split t ",").map D.str) := rfl
  have tu : tupleD (.lst (((Txt.split t ",").map numR).map oD)) = .ok (.tup (((Txt.split t ",").map numR).map oD)) := rfl
  have lr : lenD (tuI rs) = .ok (.int (rs.length : Nat)) := by simp [lenD, tuI]
  have fin : ∀ os : List (Option Nat), e_q_element_read [.sh (tuI rs), .sh (.str t), .un, .un, .un, .un] = (((lift (((lenD (.tup (os.map oD))) >>= fun x => lenD (tuI rs) >>= fun y => neD x y) >>= asB) [.sh (tuI rs), .sh (.str t), .sh (.tup (os.map oD)), .un, .un, .un] fun t' => if t' = true then .rt .non else .nx [.sh (tuI rs), .sh (.str t), .sh (.tup (os.map oD)), .un, .un, .un]).seq fun r => ((lift (((getS 2 r) >>= fun d => ((getS 0 r) >>= fun d => (.ok []) >>= fun ds => .ok (d :: ds)) >>= fun ds => .ok (d :: ds)) >>= zip2D) r fun ds => forD (q_element_read_l2) ds r).seq fun r => (lift (getS 2 r) r fun d => .rt d)))) → e_q_element_read [.sh (tuI rs), .sh (.str t), .un, .un, .un, .un] = .rt (dueD (if elB rs (.tup (os.map oD)) = true then some (valR os) else none)) := fun os he => by
    rw [he]
    have lo : lenD (.tup (os.map oD)) = .ok (.int (os.length : Nat)) := by rw [lenD_tup, List.length_map]
    have ne : neD (.int (os.length : Nat)) (.int (rs.length : Nat)) = .ok (.bl (!decide (os.length = rs.length))) := by
      rw [neD_int]
      congr 3
      exact decide_eq_decide.mpr (by omega)
    have zi : zip2D [.tup (os.map oD), tuI rs] = .ok (zipL2 (os.map oD) (rs.map D.int)) := rfl
    have eb : elB rs (.tup (os.map oD)) = (decide (os.length = rs.length) && ((os.map oD).zip rs).all fun p => inB p.1 p.2) := by
      show (decide ((os.map oD).length = rs.length) && _) = _
      rw [List.length_map]
    obtain ⟨i1, i2⟩ := qe_loop (tuI rs) (.str t) (.tup (os.map oD)) .un os rs .un .un
    by_cases hl : os.length = rs.length
    · rw [decide_eq_true hl] at ne eb
      rw [Bool.true_and] at eb
      by_cases ha : ((os.map oD).zip rs).all (fun p => inB p.1 p.2) = true
      · obtain ⟨s3', s4', e⟩ := i1 ha
        rw [ha] at eb
        have tv := (tup_val eb).1
        rw [if_pos eb]
        show _ = Oc.rt (tuI (valR os))
        rw [← tv]
        generalize D.tup (os.map oD) = OD at *
        generalize zipL2 (os.map oD) (rs.map D.int) = ZL at *
        generalize tuI rs = R at *
        generalize ((os.length : Nat) : Int) = LN at *
        generalize ((rs.length : Nat) : Int) = RN at *
        simp [lo, lr, ne, zi, e, -neD_int]
      · have ha : ((os.map oD).zip rs).all (fun p => inB p.1 p.2) = false := by simpa using ha
        have e := i2 ha
        rw [ha] at eb
        rw [if_neg (by rw [eb]; decide)]
        show _ = Oc.rt .non
        generalize D.tup (os.map oD) = OD at *
        generalize zipL2 (os.map oD) (rs.map D.int) = ZL at *
        generalize tuI rs = R at *
        generalize ((os.length : Nat) : Int) = LN at *
        generalize ((rs.length : Nat) : Int) = RN at *
        simp [lo, lr, ne, zi, e, -neD_int]
    · rw [decide_eq_false hl] at ne eb
      rw [Bool.false_and] at eb
      rw [if_neg (by rw [eb]; decide)]
      show _ = Oc.rt .non
      generalize D.tup (os.map oD) = OD at *
      generalize tuI rs = R at *
      generalize ((os.length : Nat) : Int) = LN at *
      generalize ((rs.length : Nat) : Int) = RN at *
      simp [lo, lr, ne, -neD_int]
  refine runD_rt rfl ?_
  simp only [startD, N_q_element_read, List.length_cons, List.length_nil, List.map_cons, List.map_nil, Nat.reduceAdd, Nat.reduceSub, Nat.zero_add, List.replicate, List.cons_append, List.nil_append]
  unfold edR
  dsimp only
  by_cases c : t = "-"
  · rw [decide_eq_true c] at q
    rw [if_pos c]
    refine fin [] ?_
    generalize ((Txt.split t ",").map numR).map oD = OL at *
    generalize (Txt.split t ",").map D.str = WL at *
    generalize tuI rs = R at *
    simp [e_q_element_read, q, sp, it, cc, ll, lstD, tu, -itemsD_lst, -tupleD]
  · rw [decide_eq_false c] at q
    rw [if_neg c]
    refine fin ((Txt.split t ",").map numR) ?_
    generalize ((Txt.split t ",").map numR).map oD = OL at *
    generalize (Txt.split t ",").map D.str = WL at *
    generalize tuI rs = R at *
    simp [e_q_element_read, q, sp, it, cc, ll, lstD, tu, -itemsD_lst, -tupleD]
theorem inD_none {ds : List D} (h : ds.all (okQ 62) = true) : inD .non (.lst ds) = .ok (.bl (ds.any fun d => eqQ d .non)) := by
  obtain ⟨p, h1, h2, h3⟩ := toPy_ok 63 (.lst ds) (by show ds.all (okQ 62) = true; exact h)
  obtain ⟨ps, rfl⟩ : ∃ ps, p = .list ps := by
    simp only [toPy, Option.map_eq_some_iff] at h1
    obtain ⟨ps, _, e⟩ := h1
    exact ⟨ps, e.symm⟩
  have hp : toPy.toPys ds = some ps := by
    simp only [toPy, Option.map_eq_some_iff] at h1
    obtain ⟨ps', e1, e⟩ := h1
    injection e with e
    rw [e1, e]
  have any : ∀ (ds : List D) (ps : List PyData), ds.all (okQ 62) = true → toPy.toPys ds = some ps → ps.any (fun z => PyData.eqv z .none) = ds.any fun d => eqQ d .non := fun ds => by
    induction ds with
    | nil => intro ps _ e; cases e; rfl
    | cons d ds ih =>
      intro ps hd e
      rw [List.all_cons, Bool.and_eq_true] at hd
      obtain ⟨q, q1, _⟩ := toPy_ok 62 d hd.1
      rw [toPy.toPys, q1] at e
      cases hq : toPy.toPys ds with
      | none => rw [hq] at e; cases e
      | some qs =>
        rw [hq] at e
        cases e
        have z : toPy D.non = some PyData.none := by rw [toPy]
        rw [List.any_cons, List.any_cons, eqv_eqQ 62 d .non q .none hd.1 q1 z, ih qs hd.2 hq]
  have s1 : SeqAt.shaped (PyData.none) = true := by
    unfold SeqAt.shaped
    rw [PyData.canLay0, PyData.depth]
    rfl
  have s2 : SeqAt.shaped (.list ps) = true := by
    unfold SeqAt.shaped
    rw [h2, Bool.true_and]
    exact decide_eq_true (by omega)
  show inS .non (.lst ds) = _
  have z : toPy D.non = some PyData.none := by rw [toPy]
  unfold inS
  rw [z, h1]
  show (if SeqAt.shaped .none = true ∧ SeqAt.shaped (.list ps) = true then Res.ok (D.bl (ps.any fun z => PyData.eqv z .none)) else .bad) = _
  rw [if_pos ⟨s1, s2⟩, any ds ps h hp]
def dueO : Option (List Int) → D
  | some x => tuI x
  | none => .non
def grpO : Option (List Int) → D
  | some x => gR x
  | none => .non
theorem inNone_due (os : List (Option (List Int))) : inNone 0 .non (.lst (os.map dueO)) = .ok (.bl (os.any Option.isNone)) := by
  show (if (os.map dueO).all (noneOrD 0) = true then Res.ok (D.bl ((os.map dueO).any isNonD)) else inD .non (.lst (os.map dueO))) = _
  have e1 : (os.map dueO).any isNonD = os.any Option.isNone := by
    rw [List.any_map]
    congr 1
    funext o
    cases o <;> rfl
  have e2 : (os.map dueO).any (fun d => eqQ d .non) = os.any Option.isNone := by
    rw [List.any_map]
    congr 1
    funext o
    cases o <;> rfl
  split
  · rw [e1]
  · rw [inD_none, e2]
    rw [List.all_eq_true]
    intro d hd
    obtain ⟨o, _, rfl⟩ := List.mem_map.mp hd
    cases o with
    | none => rfl
    | some x => exact okQ_tI 61 x
theorem inNone_grp (os : List (Option (List Int))) : inNone 0 .non (.lst (os.map grpO)) = .ok (.bl (os.any Option.isNone)) := by
  show (if (os.map grpO).all (noneOrD 0) = true then Res.ok (D.bl ((os.map grpO).any isNonD)) else inD .non (.lst (os.map grpO))) = _
  rw [if_pos (by
    rw [List.all_eq_true]
    intro d hd
    obtain ⟨o, _, rfl⟩ := List.mem_map.mp hd
    cases o <;> rfl)]
  congr 2
  rw [List.any_map]
  congr 1
  funext o
  cases o <;> rfl
/-- the groups that a row writes -/
def twoR : List (Option (List Int)) → Option (List Int × List Int)
  | [some a, some b] => some (a, b)
  | _ => none
def grR (w : Str) : Option (List Int × List Int) := twoR ((Txt.split w " ").map rdR)
theorem grR_none {os : List (Option (List Int))} (h : twoR os = none) (h2 : os.length = 2) : os.any Option.isNone = true := by
  match os, h2 with
  | [some a, some b], _ => cases h
  | [none, _], _ => rfl
  | [some _, none], _ => rfl
theorem grR_some {os : List (Option (List Int))} {a b : List Int} (h : twoR os = some (a, b)) : os = [some a, some b] := by
  unfold twoR at h
  split at h
  · rename_i x y
    injection h with h
    injection h with h1 h2
    rw [h1, h2]
  · cases h
theorem or_none_grp {t : Str} (h : OkS t) : d_rounds_or_none [.str t] = .ok (grpO (rdR t)) := by
  rw [or_none_ok h]
  cases rdR t <;> rfl
theorem el_or_none_due {rs : List Int} {t : Str} (h : OkS t) : d_element_or_none [gR rs, .str t] = .ok (dueO (edR rs t)) := by
  rw [el_or_none_ok h]
  cases edR rs t <;> rfl
theorem groups_read_ok {rows : List Str} (h : ∀ w ∈ rows, OkS w) (hl : rows.length ≤ 1000) : d_groups_read [.lst (rows.map D.str)] = match rows with | [] => .er (.exc 22 [.int 0]) | w :: _ => match grR w with | some (a, b) => .ok (.lst [gR a, gR b]) | none => .er (.exc 22 [.int 0]) := by
  have rd : ∀ r : Env, raiseD 22 [.int 0] r = .er (.exc 22 [.int 0]) r := fun r => rfl
  match rows, h with
  | [], _ =>
    have g : e_groups_read [.sh (.lst []), .un, .un] = .er (.exc 22 [.int 0]) [.sh (.lst []), .un, .un] := by
      simp [e_groups_read, rd]
    exact runD_er rfl g
  | w :: rows, h =>
    have hw := h w (List.mem_cons_self ..)
    obtain ⟨sp, ws⟩ := wordsB hw
    have ln : lenD (.lst ((w :: rows).map D.str)) = .ok (.int ((rows.length + 1 : Nat) : Int)) := by rw [lenD_lst, List.length_map]; rfl
    have q0 : eqD (.int ((rows.length + 1 : Nat) : Int)) (.int 0) = .ok (.bl false) := by rw [eqD_int, decide_eq_false (by omega)]
    have ix : ixD (.lst ((w :: rows).map D.str)) (.int 0) = .ok (.str w) := by
      rw [ixD_lst, show atI ((w :: rows).map D.str) 0 = some (.str w) from atI_of (n := 0) rfl]
    have cc : ∀ r : Env, r.length = 3 → groups_read_c1 r ((Txt.split w " ").map D.str) = .ok (((Txt.split w " ").map rdR).map grpO) := fun r hr => by
      rw [List.map_map]
      unfold groups_read_c1
      refine lcD_gmap D.str (fun t => grpO (rdR t)) fun t ht => ?_
      have e := or_none_grp (ws t ht)
      match r, hr with
      | [a, b, c], _ =>
        refine ⟨_, rfl, rfl, ?_⟩
        simp [wipeR, nameG, e]
    have cc := cc [.sh (.lst ((w :: rows).map D.str)), .un, .un] rfl
    have it : itemsD (.lst ((Txt.split w " ").map D.str)) = .ok ((Txt.split w " ").map D.str) := rfl
    generalize hos : (Txt.split w " ").map rdR = os at *
    have ll : (os.map grpO).length ≤ lim := by rw [List.length_map, ← hos, List.length_map]; have := words_len (y := " ") hw; unfold lim; omega
    have lo : lenD (.lst (os.map grpO)) = .ok (.int (os.length : Nat)) := by rw [lenD_lst, List.length_map]
    have ne : neD (.int (os.length : Nat)) (.int 2) = .ok (.bl (!decide (os.length = 2))) := by
      rw [neD_int]
      congr 3
      exact decide_eq_decide.mpr (by omega)
    have nn := inNone_grp os
    have eg : grR w = twoR os := by unfold grR; rw [hos]
    show _ = match grR w with | some (a, b) => Res.ok (D.lst [gR a, gR b]) | none => .er (.exc 22 [.int 0])
    cases hg : grR w with
    | some p =>
      obtain ⟨a, b⟩ := p
      rw [hg] at eg
      have eo := grR_some eg.symm
      have hl2 : os.length = 2 := by rw [eo]; rfl
      have han : os.any Option.isNone = false := by rw [eo]; rfl
      have em : D.lst [gR a, gR b] = D.lst (os.map grpO) := by rw [eo]; rfl
      rw [decide_eq_true hl2] at ne
      rw [han] at nn
      show _ = Res.ok (D.lst [gR a, gR b])
      rw [em]
      have g : e_groups_read [.sh (.lst ((w :: rows).map D.str)), .un, .un] = .rt (.lst (os.map grpO)) := by
        generalize os.map grpO = OL at *
        generalize ((os.length : Nat) : Int) = OLN at *
        generalize (w :: rows).map D.str = RW at *
        generalize (Txt.split w " ").map D.str = WL at *
        generalize ((rows.length + 1 : Nat) : Int) = LN at *
        simp [e_groups_read, ln, q0, ix, sp, it, cc, ll, lstD, shareAt, freeze, lo, ne, nn, -eqD_int, -neD_int, -ixD_lst, -lenD_lst, -itemsD_lst]
      exact runD_rt rfl g
    | none =>
      rw [hg] at eg
      have bad : ((neD (.int (os.length : Nat)) (.int 2) >>= asB) >>= fun t => if t = true then .ok true else inNone 0 .non (.lst (os.map grpO)) >>= asB) = .ok true := by
        rw [ne, nn]
        by_cases h2 : os.length = 2
        · rw [decide_eq_true h2, grR_none eg.symm h2]; rfl
        · rw [decide_eq_false h2]; rfl
      have g : e_groups_read [.sh (.lst ((w :: rows).map D.str)), .un, .un] = .er (.exc 22 [.int 0]) [.sh (.lst ((w :: rows).map D.str)), .sh (.lst (os.map grpO)), .un] := by
        clear ne nn
        generalize os.map grpO = OL at *
        generalize ((os.length : Nat) : Int) = OLN at *
        generalize (w :: rows).map D.str = RW at *
        generalize (Txt.split w " ").map D.str = WL at *
        generalize ((rows.length + 1 : Nat) : Int) = LN at *
        simp [e_groups_read, ln, q0, ix, sp, it, cc, ll, lstD, shareAt, freeze, lo, bad, rd, -eqD_int, -neD_int, -ixD_lst, -lenD_lst, -itemsD_lst]
      exact runD_er rfl g
/-- the elements that a row writes -/
def rowR (lo : List Int) (many : Nat) (w : Str) : Option (List (List Int)) :=
  if ((Txt.split w " ").map (edR lo)).length = many ∧ ((Txt.split w " ").map (edR lo)).any Option.isNone = false then some (((Txt.split w " ").map (edR lo)).map fun o => o.getD []) else none
theorem row_read_ok {rows : List Str} (h : ∀ w ∈ rows, OkS w) (hl : rows.length ≤ 1000) (lo : List Int) (at_ many : Nat) : d_row_read [gR lo, .lst (rows.map D.str), .int (at_ : Nat), .int (many : Nat)] = match rows[at_]? with | none => .er (.exc 22 [.int (at_ : Nat)]) | some w => match rowR lo many w with | some xs => .ok (.lst (xs.map tuI)) | none => .er (.exc 22 [.int (at_ : Nat)]) := by
  have rd : ∀ r : Env, raiseD 22 [.int (at_ : Nat)] r = .er (.exc 22 [.int (at_ : Nat)]) r := fun r => rfl
  have ln : lenD (.lst (rows.map D.str)) = .ok (.int (rows.length : Nat)) := by rw [lenD_lst, List.length_map]
  cases hr : rows[at_]? with
  | none =>
    have hle := List.getElem?_eq_none_iff.mp hr
    have ge : geD (.int (at_ : Nat)) (.int (rows.length : Nat)) = .ok (.bl true) := by rw [geD_int, decide_eq_true (by omega)]
    have g : e_row_read [.sh (gR lo), .sh (.lst (rows.map D.str)), .sh (.int (at_ : Nat)), .sh (.int (many : Nat)), .un, .un] = .er (.exc 22 [.int (at_ : Nat)]) [.sh (gR lo), .sh (.lst (rows.map D.str)), .sh (.int (at_ : Nat)), .sh (.int (many : Nat)), .un, .un] := by
      generalize gR lo = G at *
      generalize rows.map D.str = RW at *
      generalize ((rows.length : Nat) : Int) = LN at *
      generalize ((at_ : Nat) : Int) = AT at *
      simp [e_row_read, ln, ge, rd, -geD_int, -lenD_lst]
    exact runD_er rfl g
  | some w =>
    obtain ⟨hlt, hw0⟩ := List.getElem?_eq_some_iff.mp hr
    have ge : geD (.int (at_ : Nat)) (.int (rows.length : Nat)) = .ok (.bl false) := by rw [geD_int, decide_eq_false (by omega)]
    have hw := h w (List.mem_of_getElem? hr)
    obtain ⟨sp, ws⟩ := wordsB hw
    have ix : ixD (.lst (rows.map D.str)) (.int (at_ : Nat)) = .ok (.str w) := by
      rw [ixD_lst, atI_of (n := at_) (x := D.str w) (by rw [List.getElem?_map, hr]; rfl)]
    have cc : ∀ r : Env, r.length = 6 → getS 0 r = .ok (gR lo) → r[0]? = some (.sh (gR lo)) → row_read_c1 r ((Txt.split w " ").map D.str) = .ok (((Txt.split w " ").map (edR lo)).map dueO) := fun r hr _ h0 => by
      rw [List.map_map]
      unfold row_read_c1
      refine lcD_gmap D.str (fun t => dueO (edR lo t)) fun t ht => ?_
      have e := el_or_none_due (rs := lo) (ws t ht)
      match r, hr, h0 with
      | [a, b, c, d, f, g], _, h0 =>
        cases h0
        refine ⟨_, rfl, rfl, ?_⟩
        generalize gR lo = G at *
        simp [wipeR, nameG, e]
    have cc := cc [.sh (gR lo), .sh (.lst (rows.map D.str)), .sh (.int (at_ : Nat)), .sh (.int (many : Nat)), .un, .un] rfl rfl rfl
    have it : itemsD (.lst ((Txt.split w " ").map D.str)) = .ok ((Txt.split w " ").map D.str) := rfl
    show _ = match rowR lo many w with | some xs => Res.ok (D.lst (xs.map tuI)) | none => .er (.exc 22 [.int (at_ : Nat)])
    unfold rowR
    have ll : (((Txt.split w " ").map (edR lo)).map dueO).length ≤ lim := by rw [List.length_map, List.length_map]; have := words_len (y := " ") hw; unfold lim; omega
    generalize (Txt.split w " ").map (edR lo) = os at *
    have lo' : lenD (.lst (os.map dueO)) = .ok (.int (os.length : Nat)) := by rw [lenD_lst, List.length_map]
    have ne : neD (.int (os.length : Nat)) (.int (many : Nat)) = .ok (.bl (!decide (os.length = many))) := by
      rw [neD_int]
      congr 3
      exact decide_eq_decide.mpr (by omega)
    have nn := inNone_due os
    by_cases hc : os.length = many ∧ os.any Option.isNone = false
    · rw [if_pos hc]
      rw [decide_eq_true hc.1] at ne
      rw [hc.2] at nn
      have em : (os.map fun o => o.getD []).map tuI = os.map dueO := by
        rw [List.map_map]
        refine List.map_congr_left fun o ho => ?_
        cases o with
        | some x => rfl
        | none =>
          have := List.any_eq_false.mp hc.2 none ho
          exact absurd rfl this
      show _ = Res.ok (D.lst ((os.map fun o => o.getD []).map tuI))
      rw [em]
      refine runD_rt rfl ?_
      simp only [startD, N_row_read, List.length_cons, List.length_nil, List.map_cons, List.map_nil, Nat.reduceAdd, Nat.reduceSub, Nat.zero_add, List.replicate, List.cons_append, List.nil_append]
      generalize os.map dueO = OL at *
      generalize ((os.length : Nat) : Int) = OLN at *
      generalize gR lo = G at *
      generalize rows.map D.str = RW at *
      generalize (Txt.split w " ").map D.str = WL at *
      generalize ((rows.length : Nat) : Int) = LN at *
      generalize ((at_ : Nat) : Int) = AT at *
      generalize ((many : Nat) : Int) = MN at *
      simp [e_row_read, ln, ge, ix, sp, it, cc, ll, lstD, shareAt, freeze, lo', ne, nn, -geD_int, -neD_int, -ixD_lst, -lenD_lst, -itemsD_lst]
    · rw [if_neg hc]
      have bad : ((neD (.int (os.length : Nat)) (.int (many : Nat)) >>= asB) >>= fun t => if t = true then .ok true else inNone 0 .non (.lst (os.map dueO)) >>= asB) = .ok true := by
        rw [ne, nn]
        by_cases h2 : os.length = many
        · have : os.any Option.isNone = true := by
            cases hb : os.any Option.isNone with
            | true => rfl
            | false => exact absurd ⟨h2, hb⟩ hc
          rw [decide_eq_true h2, this]; rfl
        · rw [decide_eq_false h2]; rfl
      have g : e_row_read [.sh (gR lo), .sh (.lst (rows.map D.str)), .sh (.int (at_ : Nat)), .sh (.int (many : Nat)), .un, .un] = .er (.exc 22 [.int (at_ : Nat)]) [.sh (gR lo), .sh (.lst (rows.map D.str)), .sh (.int (at_ : Nat)), .sh (.int (many : Nat)), .sh (.lst (os.map dueO)), .un] := by
        clear ne nn
        generalize os.map dueO = OL at *
        generalize ((os.length : Nat) : Int) = OLN at *
        generalize gR lo = G at *
        generalize rows.map D.str = RW at *
        generalize (Txt.split w " ").map D.str = WL at *
        generalize ((rows.length : Nat) : Int) = LN at *
        generalize ((at_ : Nat) : Int) = AT at *
        generalize ((many : Nat) : Int) = MN at *
        simp [e_row_read, ln, ge, ix, sp, it, cc, ll, lstD, shareAt, freeze, lo', bad, rd, -geD_int, -neD_int, -ixD_lst, -lenD_lst, -itemsD_lst]
      exact runD_er rfl g
section
variable {RW GL GU SM : D}
theorem rt_in {x : List Int} {sk : Slot} : ∀ (ys vs : List (List Int)) (L : List ((List Int × List Int) × List Int)) (s7 s8 : Slot), (∀ y ∈ ys, (x, y) ∉ L.map (·.1)) → ys.Nodup → L.length + ys.length ≤ 1000 → ∃ s7' s8', forD read_table_l1 (zipL2 (ys.map tuI) (vs.map tuI)) [.sh RW, .sh GL, .sh GU, .sh SM, .ow .flat (dicA pkD tuI L), sk, .sh (tuI x), s7, s8] = .nx [.sh RW, .sh GL, .sh GU, .sh SM, .ow .flat (dicA pkD tuI (L ++ (ys.zip vs).map fun p => ((x, p.1), p.2))), sk, .sh (tuI x), s7', s8']
  | [], _, L, s7, s8, _, _, _ => ⟨s7, s8, by simp [zipL2]⟩
  | _ :: _, [], L, s7, s8, _, _, _ => ⟨s7, s8, by simp [zipL2]⟩
  | y :: ys, v :: vs, L, s7, s8, hf, hn, hl => by
    simp only [List.length_cons] at hl
    have hy := hf y (List.mem_cons_self ..)
    have hn' := List.nodup_cons.mp hn
    have sd := setD_A (V := tuI) keyP L (x, y) v (by unfold lim; omega)
    rw [setA_new _ hy] at sd
    have sd : setD (dicA pkD tuI L) (.tup [tuI x, tuI y]) (tuI v) = .ok (dicA pkD tuI (L ++ [((x, y), v)])) := sd
    obtain ⟨s7', s8', ih⟩ := rt_in ys vs (L ++ [((x, y), v)]) (.sh (tuI y)) (.sh (tuI v)) (fun z hz hm => by
      rw [List.map_append] at hm
      rcases List.mem_append.mp hm with h | h
      · exact hf z (List.mem_cons_of_mem _ hz) h
      · have h : (x, z) = (x, y) := by simpa using h
        injection h with _ h
        exact hn'.1 (h ▸ hz)) hn'.2 (by rw [List.length_append]; simp; omega) (sk := sk)
    refine ⟨s7', s8', ?_⟩
    have zz : zipL2 ((y :: ys).map tuI) ((v :: vs).map tuI) = .tup [tuI y, tuI v] :: zipL2 (ys.map tuI) (vs.map tuI) := rfl
    have l2 := l_two
    have st : read_table_l1 (.tup [tuI y, tuI v]) [.sh RW, .sh GL, .sh GU, .sh SM, .ow .flat (dicA pkD tuI L), sk, .sh (tuI x), s7, s8] = .nx [.sh RW, .sh GL, .sh GU, .sh SM, .ow .flat (dicA pkD tuI (L ++ [((x, y), v)])), sk, .sh (tuI x), .sh (tuI y), .sh (tuI v)] := by
      generalize dicA pkD tuI (L ++ [((x, y), v)]) = D2 at *
      generalize dicA pkD tuI L = D1 at *
      generalize tuI x = X at *
      generalize tuI y = Y at *
      generalize tuI v = V at *
      simp [read_table_l1, tupG, consG, nilG, nameG, setG, ownF, l2, sd]
    rw [zz, forD_cons, st]
    rw [List.zip_cons_cons, List.map_cons]
    have ea : L ++ ((x, y), v) :: (ys.zip vs).map (fun p => ((x, p.1), p.2)) = (L ++ [((x, y), v)]) ++ (ys.zip vs).map (fun p => ((x, p.1), p.2)) := by simp
    rw [ea]
    exact ih
/-- a row's pairs -/
def prR (M : List (List Int)) (a : List Int × Nat) (v : Nat → Option (List (List Int))) : List ((List Int × List Int) × List Int) := (M.zip ((v a.2).getD [])).map fun p => ((a.1, p.1), p.2)
theorem prR_fst {M : List (List Int)} {a : List Int × Nat} {v : Nat → Option (List (List Int))} {z : List Int × List Int} (h : z ∈ (prR M a v).map (·.1)) : z.1 = a.1 := by
  obtain ⟨p, hp, rfl⟩ := List.mem_map.mp h
  obtain ⟨q, _, rfl⟩ := List.mem_map.mp hp
  rfl
theorem prR_len {M : List (List Int)} {a : List Int × Nat} {v : Nat → Option (List (List Int))} : (prR M a v).length ≤ M.length := by
  unfold prR
  rw [List.length_map, List.length_zip]
  exact Nat.min_le_left _ _
theorem rt_out {M : List (List Int)} (hM : M.Nodup) (h9 : M.length ≤ 9) (hS : SM = .lst (M.map tuI)) (v : Nat → Option (List (List Int))) (hr : ∀ k : Nat, d_row_read [GL, RW, .int ((k : Int) + 1), .int (M.length : Nat)] = match v k with | some vs => .ok (.lst (vs.map tuI)) | none => .er (.exc 22 [.int ((k : Int) + 1)])) :
    ∀ (X : List (List Int × Nat)) (L : List ((List Int × List Int) × List Int)) (s5 s6 s7 s8 : Slot), (X.map (·.1)).Nodup → (∀ a ∈ X, ∀ z ∈ L.map (·.1), z.1 ≠ a.1) → L.length + X.length * 9 ≤ 1000 →
    ((∀ a ∈ X, (v a.2).isSome = true) → ∃ s5' s6' s7' s8', forD read_table_l2 (X.map fun a => D.tup [.int (a.2 : Nat), tuI a.1]) [.sh RW, .sh GL, .sh GU, .sh SM, .ow .flat (dicA pkD tuI L), s5, s6, s7, s8] = .nx [.sh RW, .sh GL, .sh GU, .sh SM, .ow .flat (dicA pkD tuI (L ++ X.flatMap fun a => prR M a v)), s5', s6', s7', s8']) ∧
    (∀ a, X.find? (fun a => (v a.2).isNone) = some a → ∃ r, forD read_table_l2 (X.map fun a => D.tup [.int (a.2 : Nat), tuI a.1]) [.sh RW, .sh GL, .sh GU, .sh SM, .ow .flat (dicA pkD tuI L), s5, s6, s7, s8] = .er (.exc 22 [.int ((a.2 : Nat) + 1 : Int)]) r)
  | [], L, s5, s6, s7, s8, _, _, _ => ⟨fun _ => ⟨s5, s6, s7, s8, by simp⟩, fun a h => by simp at h⟩
  | a :: X, L, s5, s6, s7, s8, hn, hf, hl => by
    simp only [List.length_cons] at hl
    have ra := hr a.2
    have ln : lenD SM = .ok (.int (M.length : Nat)) := by rw [hS, lenD_lst, List.length_map]
    have ad : addD (.int (a.2 : Nat)) (.int 1) = .ok (.int ((a.2 : Int) + 1)) := rfl
    rw [List.map_cons] at hn ⊢
    have hn' := List.nodup_cons.mp hn
    rw [forD_cons]
    cases hv : v a.2 with
    | none =>
      rw [hv] at ra
      have ra : d_row_read [GL, RW, .int ((a.2 : Int) + 1), .int (M.length : Nat)] = .er (.exc 22 [.int ((a.2 : Int) + 1)]) := ra
      have st : read_table_l2 (.tup [.int (a.2 : Nat), tuI a.1]) [.sh RW, .sh GL, .sh GU, .sh SM, .ow .flat (dicA pkD tuI L), s5, s6, s7, s8] = .er (.exc 22 [.int ((a.2 : Int) + 1)]) [.sh RW, .sh GL, .sh GU, .sh SM, .ow .flat (dicA pkD tuI L), .sh (.int (a.2 : Nat)), .sh (tuI a.1), s7, s8] := by
        generalize dicA pkD tuI L = D1 at *
        generalize tuI a.1 = X1 at *
        generalize ((a.2 : Int) + 1) = A1 at *
        generalize ((a.2 : Nat) : Int) = A0 at *
        generalize ((M.length : Nat) : Int) = MN at *
        simp [read_table_l2, tupG, consG, nilG, nameG, ln, ad, ra, -addD_int]
      rw [st]
      refine ⟨fun h => ?_, fun b hb => ?_⟩
      · have := h a (List.mem_cons_self ..)
        rw [hv] at this
        cases this
      · rw [List.find?_cons, hv] at hb
        injection hb with hb
        subst hb
        exact ⟨_, rfl⟩
    | some vs =>
      rw [hv] at ra
      have ra : d_row_read [GL, RW, .int ((a.2 : Int) + 1), .int (M.length : Nat)] = .ok (.lst (vs.map tuI)) := ra
      have zi : zip2D [SM, .lst (vs.map tuI)] = .ok (zipL2 (M.map tuI) (vs.map tuI)) := by rw [hS]; rfl
      obtain ⟨s7', s8', e⟩ := rt_in (RW := RW) (GL := GL) (GU := GU) (SM := SM) (x := a.1) (sk := .sh (.int (a.2 : Nat))) M vs L s7 s8 (fun y _ hm => hf a (List.mem_cons_self ..) _ hm rfl) hM (by omega)
      have ep : prR M a v = (M.zip vs).map fun p => ((a.1, p.1), p.2) := by unfold prR; rw [hv]; rfl
      rw [← ep] at e
      have st : read_table_l2 (.tup [.int (a.2 : Nat), tuI a.1]) [.sh RW, .sh GL, .sh GU, .sh SM, .ow .flat (dicA pkD tuI L), s5, s6, s7, s8] = .nx [.sh RW, .sh GL, .sh GU, .sh SM, .ow .flat (dicA pkD tuI (L ++ prR M a v)), .sh (.int (a.2 : Nat)), .sh (tuI a.1), s7', s8'] := by
        generalize zipL2 (M.map tuI) (vs.map tuI) = ZL at *
        generalize dicA pkD tuI (L ++ prR M a v) = D2 at *
        generalize dicA pkD tuI L = D1 at *
        generalize vs.map tuI = VL at *
        generalize tuI a.1 = X1 at *
        generalize ((a.2 : Int) + 1) = A1 at *
        generalize ((a.2 : Nat) : Int) = A0 at *
        generalize ((M.length : Nat) : Int) = MN at *
        simp [read_table_l2, tupG, consG, nilG, nameG, ln, ad, ra, zi, e, -addD_int]
      rw [st]
      have pl := prR_len (M := M) (a := a) (v := v)
      obtain ⟨i1, i2⟩ := rt_out hM h9 hS v hr X (L ++ prR M a v) (.sh (.int (a.2 : Nat))) (.sh (tuI a.1)) s7' s8' hn'.2 (fun b hb z hz => by
        rw [List.map_append] at hz
        rcases List.mem_append.mp hz with h | h
        · exact hf b (List.mem_cons_of_mem _ hb) z h
        · rw [prR_fst h]
          intro e
          exact hn'.1 (e ▸ List.mem_map_of_mem (f := (·.1)) hb)) (by rw [List.length_append]; omega)
      refine ⟨fun h => ?_, fun b hb => ?_⟩
      · obtain ⟨x1, x2, x3, x4, e⟩ := i1 fun b hb => h b (List.mem_cons_of_mem _ hb)
        refine ⟨x1, x2, x3, x4, e.trans ?_⟩
        rw [List.flatMap_cons, List.append_assoc]
      · rw [List.find?_cons, hv] at hb
        exact i2 b hb
end
/-- what rows are read to, their groups being told -/
def vRow (rows : List Str) (lo : List Int) (n : Nat) (k : Nat) : Option (List (List Int)) := match rows[k + 1]? with
  | some w => rowR lo n w
  | none => none
theorem rr_ok {rows : List Str} (h : ∀ w ∈ rows, OkS w) (hl : rows.length ≤ 1000) (lo : List Int) (n k : Nat) : d_row_read [gR lo, .lst (rows.map D.str), .int ((k : Int) + 1), .int (n : Nat)] = match vRow rows lo n k with | some vs => .ok (.lst (vs.map tuI)) | none => .er (.exc 22 [.int ((k : Int) + 1)]) := by
  have e := row_read_ok h hl lo (k + 1) n
  rw [show ((k + 1 : Nat) : Int) = (k : Int) + 1 by omega] at e
  rw [e]
  unfold vRow
  cases rows[k + 1]? <;> rfl
theorem row_free {s : Str} {k : Nat} (hs : tl s = [k]) {xs : List Int} (hx : ∀ i ∈ xs, 0 ≤ i ∧ i < 1000) : ∀ c ∈ tl (rowT s xs), c = k ∨ (48 ≤ c ∧ c ≤ 57) := fun c hc => by
  rw [row_tl] at hc
  rcases (joinL_in (tl s) ((xs.map txN).map tl)).2 c hc with h | ⟨p, hp, h⟩
  · rw [hs] at h
    exact .inl (List.mem_singleton.mp h)
  · obtain ⟨w, hw, rfl⟩ := List.mem_map.mp hp
    obtain ⟨i, hi, rfl⟩ := List.mem_map.mp hw
    exact .inr ((tx_fact (hx i hi).1 (hx i hi).2).2.2.1 c h)
theorem rsT_free {x : List Int} (hx : ∀ i ∈ x, 0 ≤ i ∧ i < 1000) : (32 : Nat) ∉ tl (rsT x) := fun h => by
  unfold rsT at h
  split at h
  · rw [show tl ("1" : Str) = [49] by decide +kernel] at h
    simp at h
  · have := row_free x_tl hx 32 h
    omega
/-- words with a blank between -/
def linT (ws : List Str) : Str := Txt.join " " ws
theorem lin_split {ws : List Str} (hne : ws ≠ []) (hf : ∀ w ∈ ws, (32 : Nat) ∉ tl w) : Txt.split (linT ws) " " = ws := TL.split_join (y := " ") (s := 32) (S := []) blank_tl (by decide +kernel) hne hf
theorem lin_ok {ws : List Str} {n : Nat} (hw : ∀ w ∈ ws, OkS w ∧ (tl w).length ≤ n) (hl : ws.length * (n + 1) ≤ 1000) : joinD (.str " ") (.lst (ws.map D.str)) = .ok (.str (linT ws)) ∧ OkS (linT ws) := by
  have b1 : (" " : Str).length = 1 := by decide +kernel
  have hs : (ws.map Str.length).sum ≤ ws.length * n := sum_le_mul _ fun w hw' => by rw [tl_len]; exact (hw w hw').2
  have hm : ws.length * (n + 1) = ws.length * n + ws.length := Nat.mul_succ _ _
  refine ⟨join_okT (by rw [b1]; omega), ?_⟩
  have et : tl (linT ws) = TL.joinL (tl (" " : Str)) (ws.map tl) := by
    unfold linT
    rw [TL.join_eq]
    exact TL.tl_join _ _
  obtain ⟨j1, j2⟩ := joinL_in (tl (" " : Str)) (ws.map tl)
  have e3 : ((ws.map tl).map List.length).sum = (ws.map Str.length).sum := by
    rw [List.map_map]
    congr 1
  rw [e3, blank_tl, List.length_map] at j1
  refine ⟨by rw [tl_len, et, blank_tl]; simp only [List.length_singleton] at j1; omega, fun c hc => ?_⟩
  rw [et] at hc
  rcases j2 c hc with h | ⟨p, hp, h⟩
  · rw [blank_tl, List.mem_singleton] at h
    omega
  · obtain ⟨w, hw', rfl⟩ := List.mem_map.mp hp
    exact (hw w hw').1.c c h
theorem two_lin (a b : Str) : a ++ " " ++ b = linT [a, b] := by
  unfold linT
  rw [TL.join_eq]
  rfl
theorem addS {a b : Str} (ha : OkS a) (hb : OkS b) : addD (.str a) (.str b) = .ok (.str (a ++ b)) := by
  show (if a.length + b.length ≤ lim then Res.ok (D.str (a ++ b)) else .bad) = _
  rw [if_pos (by have := ha.len; have := hb.len; unfold lim; omega)]
theorem els_lt {rs x : List Int} (g : OkG rs) (hx : OkE rs x) : (∀ i ∈ x, 0 ≤ i ∧ i < 1000) ∧ x.length ≤ 7 := by
  refine ⟨fun i hi => ?_, by rw [hx.len]; exact g.ok.len⟩
  obtain ⟨k, hk⟩ := List.getElem?_of_mem hi
  have hkl := (List.getElem?_eq_some_iff.mp hk).1
  have hz := hx.at_ (i, rs[k]'(by rw [← hx.len]; exact hkl)) (List.mem_of_getElem? (i := k) (by rw [List.getElem?_zip_eq_some]; exact ⟨hk, List.getElem?_eq_getElem _⟩))
  have := g.most _ (List.getElem_mem (l := rs) (n := k) (by rw [← hx.len]; exact hkl))
  omega
theorem rnd_lt {rs : List Int} (g : OkG rs) : ∀ i ∈ rs, 0 ≤ i ∧ i < 1000 := fun i hi => by
  have := g.ok.two i hi
  have := g.most i hi
  omega
/-- a table's texts -/
def fstT (lo up : List Int) : Str := linT [rsT lo, rsT up]
def rwT (up : List Int) (c : List Int → List Int → List Int) (x : List Int) : Str := linT ((mems up).map fun y => elT (c x y))
section
variable {lo up : List Int} {c : List Int → List Int → List Int}
theorem fst_ok (g1 : OkG lo) (g2 : OkG up) : (addD (.str (rsT lo)) (.str " ") >>= fun x => addD x (.str (rsT up))) = .ok (.str (fstT lo up)) ∧ OkS (fstT lo up) ∧ grR (fstT lo up) = some (lo, up) := by
  obtain ⟨a1, a2⟩ := rsT_ok (rnd_lt g1) g1.ok.len
  obtain ⟨b1, b2⟩ := rsT_ok (rnd_lt g2) g2.ok.len
  have l1 := g1.ok.len
  have l2 := g2.ok.len
  have bo : OkS (" " : Str) := ⟨by decide +kernel, by decide +kernel⟩
  have e1 := addS a1 bo
  have ab : OkS (rsT lo ++ " ") := by
    have et : tl (rsT lo ++ " ") = tl (rsT lo) ++ tl (" " : Str) := TL.tl_append _ _
    refine ⟨by rw [tl_len, et, List.length_append, blank_tl]; simp only [List.length_singleton]; omega, fun c hc => ?_⟩
    rw [et] at hc
    rcases List.mem_append.mp hc with h | h
    · exact a1.c c h
    · exact bo.c c h
  have e2 := addS ab b1
  obtain ⟨_, k2⟩ := lin_ok (ws := [rsT lo, rsT up]) (n := 29) (fun w hw => by
    simp only [List.mem_cons, List.not_mem_nil, or_false] at hw
    rcases hw with rfl | rfl
    · exact ⟨a1, by omega⟩
    · exact ⟨b1, by omega⟩) (by show 2 * 30 ≤ 1000; omega)
  refine ⟨?_, k2, ?_⟩
  · rw [e1]
    show addD (.str (rsT lo ++ " ")) (.str (rsT up)) = _
    rw [e2, two_lin]
    rfl
  · unfold grR fstT
    rw [lin_split (by simp) (fun w hw => by
      simp only [List.mem_cons, List.not_mem_nil, or_false] at hw
      rcases hw with rfl | rfl
      · exact rsT_free (rnd_lt g1)
      · exact rsT_free (rnd_lt g2))]
    show twoR [rdR (rsT lo), rdR (rsT up)] = _
    rw [rdR_back g1, rdR_back g2]
    rfl
end
theorem rdR_okG {t : Str} {rs : List Int} (h : rdR t = some rs) : OkG rs := by
  unfold rdR at h
  by_cases c : t = "1"
  · rw [if_pos c] at h
    cases h
    exact ⟨⟨by simp, by simp⟩, by simp, by simp⟩
  · rw [if_neg c] at h
    exact (roundsR_ok h).1
theorem grR_okG {w : Str} {lo up : List Int} (h : grR w = some (lo, up)) : OkG lo ∧ OkG up := by
  have e := grR_some h
  have h1 : some lo ∈ (Txt.split w " ").map rdR := by rw [e]; simp
  have h2 : some up ∈ (Txt.split w " ").map rdR := by rw [e]; simp
  obtain ⟨t1, _, e1⟩ := List.mem_map.mp h1
  obtain ⟨t2, _, e2⟩ := List.mem_map.mp h2
  exact ⟨rdR_okG e1, rdR_okG e2⟩
theorem edR_okE {rs x : List Int} {t : Str} (h : edR rs t = some x) : OkE rs x := by
  unfold edR at h
  dsimp only at h
  generalize (if t = "-" then [] else (Txt.split t ",").map numR) = os at h
  by_cases hb : elB rs (.tup (os.map oD)) = true
  · rw [if_pos hb] at h
    cases h
    exact (tup_val hb).2
  · rw [if_neg hb] at h
    cases h
theorem rowR_okE {lo : List Int} {n : Nat} {w : Str} {xs : List (List Int)} (h : rowR lo n w = some xs) : xs.length = n ∧ ∀ x ∈ xs, OkE lo x := by
  unfold rowR at h
  by_cases c : ((Txt.split w " ").map (edR lo)).length = n ∧ ((Txt.split w " ").map (edR lo)).any Option.isNone = false
  · rw [if_pos c] at h
    cases h
    refine ⟨by rw [List.length_map]; exact c.1, fun x hx => ?_⟩
    obtain ⟨o, ho, rfl⟩ := List.mem_map.mp hx
    have hs := List.any_eq_false.mp c.2 o ho
    match o, ho, hs with
    | some y, ho, _ =>
      obtain ⟨t, _, e⟩ := List.mem_map.mp ho
      exact edR_okE e
    | none, _, hs => exact absurd rfl hs
  · rw [if_neg c] at h
    cases h
theorem look_lower {lo up : List Int} (g1 : OkG lo) (h : 16 < lo.foldl (· * ·) 1) : d_look_at_groups [gR lo, gR up] = .er (.exc 13 []) := by
  have s1 := size_ok g1
  have m1 : mthD mt_size (gR lo) = .ok (fun ds => d_Group_size (gR lo :: ds)) := rfl
  have gt : gtD (.int (lo.foldl (· * ·) 1)) (.int 16) = .ok (.bl true) := by rw [gtD_int, decide_eq_true (by omega)]
  have g : ∃ r, e_look_at_groups [.sh (gR lo), .sh (gR up)] = .er (.exc 13 []) r := by
    generalize lo.foldl (· * ·) 1 = P at *
    generalize gR lo = GL at *
    generalize gR up = GU at *
    exact ⟨_, by simp [e_look_at_groups, m1, s1, gt, -gtD_int]; rfl⟩
  obtain ⟨r, g⟩ := g
  exact runD_er rfl g
theorem look_upper {lo up : List Int} (g1 : OkG lo) (g2 : OkG up) (h1 : lo.foldl (· * ·) 1 ≤ 16) (h : 9 < up.foldl (· * ·) 1) : d_look_at_groups [gR lo, gR up] = .er (.exc 14 []) := by
  have s1 := size_ok g1
  have s2 := size_ok g2
  have m1 : mthD mt_size (gR lo) = .ok (fun ds => d_Group_size (gR lo :: ds)) := rfl
  have m2 : mthD mt_size (gR up) = .ok (fun ds => d_Group_size (gR up :: ds)) := rfl
  have ev := even_ok lo
  have me : mthD mt_is_even (gR lo) = .ok (fun ds => d_Rounds_is_even (gR lo :: ds)) := rfl
  have ir := is_rounds up
  have gt : gtD (.int (lo.foldl (· * ·) 1)) (.int 16) = .ok (.bl false) := by rw [gtD_int, decide_eq_false (by omega)]
  have gt2 : gtD (.int (up.foldl (· * ·) 1)) (.int 9) = .ok (.bl true) := by rw [gtD_int, decide_eq_true (by omega)]
  have g : ∃ r, e_look_at_groups [.sh (gR lo), .sh (gR up)] = .er (.exc 14 []) r := by
    generalize lo.foldl (· * ·) 1 = P at *
    generalize up.foldl (· * ·) 1 = P2 at *
    generalize gR lo = GL at *
    generalize gR up = GU at *
    exact ⟨_, by simp [e_look_at_groups, m1, s1, gt, me, ev, ir, m2, s2, gt2, -gtD_int]; rfl⟩
  obtain ⟨r, g⟩ := g
  exact runD_er rfl g
/-- what any rows are read to -/
inductive RtO
  | txt (n : Nat)
  | low
  | upp
  | tab (lo up : List Int) (L : List ((List Int × List Int) × List Int))
def rtO (rows : List Str) : RtO := match rows with
  | [] => .txt 0
  | w :: _ => match grR w with
    | none => .txt 0
    | some (lo, up) => if 16 < lo.foldl (· * ·) 1 then .low else if 9 < up.foldl (· * ·) 1 then .upp else
      match (mems up).zipIdx.find? (fun a => (vRow rows lo (mems up).length a.2).isNone) with
      | some a => .txt (a.2 + 1)
      | none => if (mems up).length + 1 < rows.length then .txt ((mems up).length + 1) else .tab lo up ((mems up).zipIdx.flatMap fun a => prR (mems up) a (vRow rows lo (mems up).length))
def OkRt (r : Res D) : RtO → Prop
  | .txt n => r = .er (.exc 22 [.int (n : Nat)])
  | .low => r = .er (.exc 13 [])
  | .upp => r = .er (.exc 14 [])
  | .tab lo up L => ∃ c, OkT lo up ∧ OkC lo up c ∧ dicA pkD tuI L = (dicF pkD tuI (prs up) fun p => c p.1 p.2) ∧ r = .ok (tabD lo up c)
theorem not_inT {up x y : List Int} {c : List Int → List Int → List Int} (hx : OkE up x) (hy : OkE up y) : notInD (pkD (x, y)) (dicF pkD tuI (prs up) fun p => c p.1 p.2) = .ok (.bl false) := by
  have hm : (x, y) ∈ prs up := mem_prs.mpr ⟨mem_mems.mpr hx, mem_mems.mpr hy⟩
  have := notInD_A (V := tuI) keyP ((prs up).map fun p => (p, c p.1 p.2)) (x, y)
  simpa [hasA_map, hm] using this
theorem vRow_okE {rows : List Str} {lo : List Int} {n k : Nat} {xs : List (List Int)} (h : vRow rows lo n k = some xs) : xs.length = n ∧ ∀ x ∈ xs, OkE lo x := by
  unfold vRow at h
  cases hr : rows[k + 1]? with
  | none => rw [hr] at h; cases h
  | some w => rw [hr] at h; exact rowR_okE h
theorem read_any {rows : List Str} (hrows : ∀ w ∈ rows, OkS w) (hl : rows.length ≤ 1000) : OkRt (d_read_table [.lst (rows.map D.str)]) (rtO rows) := by
  have gr := groups_read_ok hrows hl
  match rows, hrows, hl, gr with
  | [], _, _, gr =>
    have gr : d_groups_read [.lst []] = .er (.exc 22 [.int 0]) := gr
    show d_read_table [.lst []] = .er (.exc 22 [.int 0])
    have g : e_read_table [.sh (.lst []), .un, .un, .un, .un, .un, .un, .un, .un] = .er (.exc 22 [.int 0]) [.sh (.lst []), .un, .un, .un, .un, .un, .un, .un, .un] := by
      simp [e_read_table, gr]
    exact runD_er rfl g
  | w :: rest, hrows, hl, gr =>
    have gr : d_groups_read [.lst ((w :: rest).map D.str)] = match grR w with | some (a, b) => .ok (.lst [gR a, gR b]) | none => .er (.exc 22 [.int 0]) := gr
    generalize hR : (w :: rest) = rows at *
    have eO : rtO rows = match grR w with
        | none => .txt 0
        | some (lo, up) => if 16 < lo.foldl (· * ·) 1 then .low else if 9 < up.foldl (· * ·) 1 then .upp else
          match (mems up).zipIdx.find? (fun a => (vRow rows lo (mems up).length a.2).isNone) with
          | some a => .txt (a.2 + 1)
          | none => if (mems up).length + 1 < rows.length then .txt ((mems up).length + 1) else .tab lo up ((mems up).zipIdx.flatMap fun a => prR (mems up) a (vRow rows lo (mems up).length)) := by rw [← hR]; rfl
    rw [eO]
    cases hg : grR w with
    | none =>
      rw [hg] at gr
      have gr : d_groups_read [.lst (rows.map D.str)] = .er (.exc 22 [.int 0]) := gr
      show d_read_table [.lst (rows.map D.str)] = .er (.exc 22 [.int 0])
      have g : e_read_table [.sh (.lst (rows.map D.str)), .un, .un, .un, .un, .un, .un, .un, .un] = .er (.exc 22 [.int 0]) [.sh (.lst (rows.map D.str)), .un, .un, .un, .un, .un, .un, .un, .un] := by
        generalize rows.map D.str = RW at *
        simp [e_read_table, gr]
      exact runD_er rfl g
    | some p =>
      obtain ⟨lo, up⟩ := p
      rw [hg] at gr
      have gr : d_groups_read [.lst (rows.map D.str)] = .ok (.lst [gR lo, gR up]) := gr
      obtain ⟨g1, g2⟩ := grR_okG hg
      dsimp only
      by_cases h16 : 16 < lo.foldl (· * ·) 1
      · rw [if_pos h16]
        have lk := look_lower (up := up) g1 h16
        show d_read_table [.lst (rows.map D.str)] = .er (.exc 13 [])
        have g : ∃ r, e_read_table [.sh (.lst (rows.map D.str)), .un, .un, .un, .un, .un, .un, .un, .un] = .er (.exc 13 []) r := by
          generalize rows.map D.str = RW at *
          generalize gR lo = GL at *
          generalize gR up = GU at *
          exact ⟨_, by simp [e_read_table, gr, consG, nilG, nameG, lk]; rfl⟩
        obtain ⟨r, g⟩ := g
        exact runD_er rfl g
      · rw [if_neg h16]
        by_cases h9 : 9 < up.foldl (· * ·) 1
        · rw [if_pos h9]
          have lk := look_upper g1 g2 (by omega) h9
          show d_read_table [.lst (rows.map D.str)] = .er (.exc 14 [])
          have g : ∃ r, e_read_table [.sh (.lst (rows.map D.str)), .un, .un, .un, .un, .un, .un, .un, .un] = .er (.exc 14 []) r := by
            generalize rows.map D.str = RW at *
            generalize gR lo = GL at *
            generalize gR up = GU at *
            exact ⟨_, by simp [e_read_table, gr, consG, nilG, nameG, lk]; rfl⟩
          obtain ⟨r, g⟩ := g
          exact runD_er rfl g
        · rw [if_neg h9]
          have t : OkT lo up := ⟨g1, g2, by omega, by omega⟩
          have l9 := t.mems_le
          have lk := groups_ok t.g1 t.g2 t.p1 t.p2
          have m := members_ok t.g2.ok t.g2.most t.g2.prod
          have mm : mthD mt_members (gR up) = .ok (fun ds => d_Rounds_members (gR up :: ds)) := rfl
          have en : enumS [.lst ((mems up).map tuI)] = .ok ((mems up).zipIdx.map fun a => D.tup [.int (a.2 : Nat), tuI a.1]) := by
            rw [enumS_lst, enumL_els]
          obtain ⟨o1, o2⟩ := rt_out (RW := .lst (rows.map D.str)) (GL := gR lo) (GU := gR up) (SM := .lst ((mems up).map tuI)) (mems_nodup up) l9 rfl (vRow rows lo (mems up).length) (fun k => rr_ok hrows hl lo _ k) (mems up).zipIdx [] .un .un .un .un (by rw [zipIdx_fst]; exact mems_nodup up) (fun a _ z hz => by simp at hz) (by rw [List.length_zipIdx]; simp only [List.length_nil]; omega)
          cases hf : (mems up).zipIdx.find? (fun a => (vRow rows lo (mems up).length a.2).isNone) with
          | some a =>
            obtain ⟨r, lp⟩ := o2 a hf
            have lp : forD read_table_l2 ((mems up).zipIdx.map fun a => D.tup [.int (a.2 : Nat), tuI a.1]) [.sh (.lst (rows.map D.str)), .sh (gR lo), .sh (gR up), .sh (.lst ((mems up).map tuI)), .ow .flat (.dic [] []), .un, .un, .un, .un] = .er (.exc 22 [.int ((a.2 + 1 : Nat) : Int)]) r := lp
            show d_read_table [.lst (rows.map D.str)] = .er (.exc 22 [.int ((a.2 + 1 : Nat) : Int)])
            have g : e_read_table [.sh (.lst (rows.map D.str)), .un, .un, .un, .un, .un, .un, .un, .un] = .er (.exc 22 [.int ((a.2 + 1 : Nat) : Int)]) r := by
              generalize rows.map D.str = RW at *
              generalize (mems up).zipIdx.map (fun a => D.tup [.int (a.2 : Nat), tuI a.1]) = ZI at *
              generalize (mems up).map tuI = MM at *
              generalize gR lo = GL at *
              generalize gR up = GU at *
              generalize ((a.2 + 1 : Nat) : Int) = A1 at *
              simp [e_read_table, gr, consG, nilG, nameG, lk, mm, m, en, lp, -enumS_lst]
            exact runD_er rfl g
          | none =>
            have hall : ∀ a ∈ (mems up).zipIdx, (vRow rows lo (mems up).length a.2).isSome = true := fun a ha => by
              have := List.find?_eq_none.mp hf a ha
              cases hv : vRow rows lo (mems up).length a.2 with
              | some _ => rfl
              | none => rw [hv] at this; exact absurd rfl this
            obtain ⟨s5, s6, s7, s8, lp⟩ := o1 hall
            rw [List.nil_append] at lp
            generalize hL : ((mems up).zipIdx.flatMap fun a => prR (mems up) a (vRow rows lo (mems up).length)) = L at *
            have hk : L.map (·.1) = prs up := by
              rw [← hL, List.map_flatMap]
              have e1 : ∀ X : List (List Int × Nat), (∀ a ∈ X, a ∈ (mems up).zipIdx) → X.flatMap (fun a => (prR (mems up) a (vRow rows lo (mems up).length)).map (·.1)) = (X.map (·.1)).flatMap fun x => (mems up).map fun y => (x, y) := fun X => by
                induction X with
                | nil => exact fun _ => rfl
                | cons a X ih =>
                  intro hX
                  rw [List.flatMap_cons, List.map_cons, List.flatMap_cons, ih fun b hb => hX b (List.mem_cons_of_mem _ hb)]
                  congr 1
                  have hs := hall a (hX a (List.mem_cons_self ..))
                  cases hv : vRow rows lo (mems up).length a.2 with
                  | none => rw [hv] at hs; cases hs
                  | some vs =>
                    have := (vRow_okE hv).1
                    unfold prR
                    rw [hv, List.map_map]
                    show ((mems up).zip vs).map _ = _
                    have z : ((mems up).zip vs).map (fun p => (a.1, p.1)) = (((mems up).zip vs).map Prod.fst).map fun y => (a.1, y) := by rw [List.map_map]; rfl
                    have z2 : ((mems up).zip vs).map Prod.fst = mems up := List.map_fst_zip (by omega)
                    rw [z2] at z
                    exact z
              rw [e1 _ fun _ h => h, zipIdx_fst]
              rfl
            have hv : ∀ p ∈ L, OkE lo p.2 := fun p hp => by
              rw [← hL] at hp
              obtain ⟨a, ha, hp⟩ := List.mem_flatMap.mp hp
              obtain ⟨q, hq, rfl⟩ := List.mem_map.mp hp
              cases hva : vRow rows lo (mems up).length a.2 with
              | none => rw [hva] at hq; simp at hq
              | some vs =>
                rw [hva] at hq
                exact (vRow_okE hva).2 _ (List.of_mem_zip hq).2
            obtain ⟨c, hc, ec⟩ := toF hk hv
            have ti := table_ok t (dicF pkD tuI (prs up) fun p => c p.1 p.2) fun x y hx hy => ⟨not_inT hx hy, getC (lo := lo) c hx hy, hc x y hx hy⟩
            rw [ec] at lp
            have ln1 : lenD (.lst (rows.map D.str)) = .ok (.int (rows.length : Nat)) := by rw [lenD_lst, List.length_map]
            have ln2 : lenD (.lst ((mems up).map tuI)) = .ok (.int ((mems up).length : Nat)) := by rw [lenD_lst, List.length_map]
            have ad : addD (.int ((mems up).length : Nat)) (.int 1) = .ok (.int (((mems up).length + 1 : Nat) : Int)) := rfl
            have gt : gtD (.int (rows.length : Nat)) (.int (((mems up).length + 1 : Nat) : Int)) = .ok (.bl (decide ((mems up).length + 1 < rows.length))) := by
              rw [gtD_int]; congr 2; exact decide_eq_decide.mpr (by omega)
            obtain ⟨ks, vs', hd⟩ : ∃ ks vs, (dicF pkD tuI (prs up) fun p => c p.1 p.2) = .dic ks vs := ⟨_, _, rfl⟩
            have rd : ∀ (r : Env), raiseD 22 [.int (((mems up).length + 1 : Nat) : Int)] r = .er (.exc 22 [.int (((mems up).length + 1 : Nat) : Int)]) r := fun r => rfl
            have lp : forD read_table_l2 ((mems up).zipIdx.map fun a => D.tup [.int (a.2 : Nat), tuI a.1]) [.sh (.lst (rows.map D.str)), .sh (gR lo), .sh (gR up), .sh (.lst ((mems up).map tuI)), .ow .flat (.dic [] []), .un, .un, .un, .un] = .nx [.sh (.lst (rows.map D.str)), .sh (gR lo), .sh (gR up), .sh (.lst ((mems up).map tuI)), .ow .flat (dicF pkD tuI (prs up) fun p => c p.1 p.2), s5, s6, s7, s8] := lp
            dsimp only
            by_cases hmore : (mems up).length + 1 < rows.length
            · rw [if_pos hmore]
              rw [decide_eq_true hmore] at gt
              rw [hd] at lp
              show d_read_table [.lst (rows.map D.str)] = .er (.exc 22 [.int (((mems up).length + 1 : Nat) : Int)])
              have g : ∃ r, e_read_table [.sh (.lst (rows.map D.str)), .un, .un, .un, .un, .un, .un, .un, .un] = .er (.exc 22 [.int (((mems up).length + 1 : Nat) : Int)]) r := by
                generalize rows.map D.str = RW at *
                generalize (mems up).zipIdx.map (fun a => D.tup [.int (a.2 : Nat), tuI a.1]) = ZI at *
                generalize (mems up).map tuI = MM at *
                generalize gR lo = GL at *
                generalize gR up = GU at *
                generalize (((mems up).length + 1 : Nat) : Int) = M1 at *
                generalize (((mems up).length : Nat) : Int) = M0 at *
                generalize ((rows.length : Nat) : Int) = RN at *
                exact ⟨_, by simp [e_read_table, gr, consG, nilG, nameG, lk, mm, m, en, lp, ln1, ln2, ad, gt, rd, -enumS_lst, -lenD_lst, -addD_int, -gtD_int]; rfl⟩
              obtain ⟨r, g⟩ := g
              exact runD_er rfl g
            · rw [if_neg hmore]
              rw [decide_eq_false hmore] at gt
              refine ⟨c, t, hc, ec, ?_⟩
              rw [hd] at lp ti
              have g : e_read_table [.sh (.lst (rows.map D.str)), .un, .un, .un, .un, .un, .un, .un, .un] = .rt (tabD lo up c) := by
                generalize tabD lo up c = T at *
                generalize rows.map D.str = RW at *
                generalize (mems up).zipIdx.map (fun a => D.tup [.int (a.2 : Nat), tuI a.1]) = ZI at *
                generalize (mems up).map tuI = MM at *
                generalize gR lo = GL at *
                generalize gR up = GU at *
                generalize (((mems up).length + 1 : Nat) : Int) = M1 at *
                generalize (((mems up).length : Nat) : Int) = M0 at *
                generalize ((rows.length : Nat) : Int) = RN at *
                simp [e_read_table, gr, consG, nilG, nameG, lk, mm, m, en, lp, ln1, ln2, ad, gt, frzAt, freeze, ti, -enumS_lst, -lenD_lst, -addD_int, -gtD_int]
              exact runD_rt rfl g
/-- what is told of any rows -/
def toldD : RtO → D
  | .txt n => .tup [.str "text", .int (n : Nat)]
  | .low => .tup [.str "lower"]
  | .upp => .tup [.str "upper"]
  | .tab _ _ L => .tup [.str "read", dicA pkD tuI L]
theorem told_ok {rows : List Str} (hrows : ∀ w ∈ rows, OkS w) (hl : rows.length ≤ 1000) : d_q_told [.lst (rows.map D.str)] = .ok (toldD (rtO rows)) := by
  have ra := read_any hrows hl
  have l1 : 1 ≤ lim := by decide
  have l2 : 2 ≤ lim := by decide
  have cc22 : ctC.contains 22 = true := by decide
  have cc13 : ctC.contains 13 = true := by decide
  have cc14 : ctC.contains 14 = true := by decide
  have cu22 : ctU.contains 22 = true := by decide
  have cu13 : ctU.contains 13 = true := by decide
  have cu14 : ctU.contains 14 = true := by decide
  have v1 : overC 22 22 = true := by decide
  have v2 : overC 13 22 = false := by decide
  have v3 : overC 13 13 = true := by decide
  have v4 : overC 14 22 = false := by decide
  have v5 : overC 14 13 = false := by decide
  have v6 : overC 14 14 = true := by decide
  refine runD_rt rfl ?_
  simp only [startD, N_q_told, List.length_cons, List.length_nil, List.map_cons, List.map_nil, Nat.reduceAdd, Nat.reduceSub, Nat.zero_add, List.replicate, List.cons_append, List.nil_append]
  cases hr : rtO rows with
  | txt n =>
    rw [hr] at ra
    have ra : d_read_table [.lst (rows.map D.str)] = .er (.exc 22 [.int (n : Nat)]) := ra
    have fa : fldE (plOf [22] "at") (.exc 22 [.int (n : Nat)]) = .ok (.int (n : Nat)) := by
      have : plOf [22] "at" 22 = some 0 := by kernel_rfl
      unfold fldE
      simp only [this]
      rfl
    have i1 : isD isC isU (.int (n : Nat)) (.ty "bool") = .ok (.bl false) := by kernel_rfl
    have i2 : isD isC isU (.exc 22 [.int (n : Nat)]) (.cls 10) = .ok (.bl true) := by kernel_rfl
    have i3 : isD isC isU (.exc 22 [.int (n : Nat)]) (.ty "ValueError") = .ok (.bl true) := by kernel_rfl
    show _ = Oc.rt (.tup [.str "text", .int (n : Nat)])
    generalize rows.map D.str = RW at *
    generalize ((n : Nat) : Int) = NI at *
    simp [e_q_told, tryD, catchD, bindI, closeI, clrI, ra, fa, i1, i2, i3, l2, cc22, cu22, v1, -List.contains_eq_mem]
  | low =>
    rw [hr] at ra
    have ra : d_read_table [.lst (rows.map D.str)] = .er (.exc 13 []) := ra
    show _ = Oc.rt (.tup [.str "lower"])
    generalize rows.map D.str = RW at *
    simp [e_q_told, tryD, catchD, bindI, closeI, clrI, ra, l1, cc13, cu22, cu13, v2, v3, -List.contains_eq_mem]
  | upp =>
    rw [hr] at ra
    have ra : d_read_table [.lst (rows.map D.str)] = .er (.exc 14 []) := ra
    show _ = Oc.rt (.tup [.str "upper"])
    generalize rows.map D.str = RW at *
    simp [e_q_told, tryD, catchD, bindI, closeI, clrI, ra, l1, cc14, cu22, cu13, cu14, v4, v5, v6, -List.contains_eq_mem]
  | tab lo up L =>
    rw [hr] at ra
    obtain ⟨c, t, hc, ec, ra⟩ := ra
    have ca := carries_ok (c := c) t
    rw [← ec] at ca
    have mc : mthD mt_carries (tabD lo up c) = .ok (fun ds => d_Table_carries (tabD lo up c :: ds)) := rfl
    show _ = Oc.rt (.tup [.str "read", dicA pkD tuI L])
    generalize rows.map D.str = RW at *
    generalize dicA pkD tuI L = DL at *
    generalize tabD lo up c = T at *
    simp [e_q_told, tryD, ra, mc, ca, l2]
theorem q_size_ok {rs : List Int} (g : OkG rs) : d_q_size [tuI rs] = .ok (.int (rs.foldl (· * ·) 1)) := by
  have it : itemsD (tuI rs) = .ok (rs.map D.int) := rfl
  obtain ⟨r', lp, s2, rfl⟩ := forD_row (pre0 := rs) (f := q_size_l1) D.int (fun pre r => ∃ s2, r = [.sh (tuI rs), .sh (.int (pre.foldl (· * ·) 1)), s2]) (ds := rs) (pre := []) (r := [.sh (tuI rs), .sh (.int 1), .un]) (fun pre n hpre r ⟨s2, e⟩ => by
    subst e
    have hn : n ∈ rs := hpre.subset (List.mem_append_right _ (List.mem_singleton.mpr rfl))
    have n2 := g.ok.two n hn
    have n3 := g.most n hn
    have q := mulD_small (i := pre.foldl (· * ·) 1) (j := n) (.inr ⟨by omega, by omega⟩)
    refine ⟨_, ?_, .sh (.int n), rfl⟩
    rw [prod_app]
    generalize tuI rs = R at *
    simp [q_size_l1, nameG, q]) rfl ⟨_, rfl⟩
  rw [List.nil_append] at lp
  refine runD_rt rfl ?_
  simp only [startD, N_q_size, List.length_cons, List.length_nil, List.map_cons, List.map_nil, Nat.reduceAdd, Nat.reduceSub, Nat.zero_add, List.replicate, List.cons_append, List.nil_append]
  generalize rs.map D.int = RI at *
  generalize tuI rs = R at *
  simp [e_q_size, it, lp]
section
variable {RW GR LO UP SM : D}
theorem dl_in {x : List Int} {sk sf sw : Slot} : ∀ (ys vs : List (List Int)) (L : List ((List Int × List Int) × List Int)) (s9 s10 : Slot), (∀ y ∈ ys, (x, y) ∉ L.map (·.1)) → ys.Nodup → L.length + ys.length ≤ 1000 → ∃ s9' s10', forD q_due_l3 (zipL2 (ys.map tuI) (vs.map tuI)) [.sh RW, .sh GR, .sh LO, .sh UP, .sh SM, .ow .flat (dicA pkD tuI L), sk, .sh (tuI x), sf, s9, s10, sw] = .nx [.sh RW, .sh GR, .sh LO, .sh UP, .sh SM, .ow .flat (dicA pkD tuI (L ++ (ys.zip vs).map fun p => ((x, p.1), p.2))), sk, .sh (tuI x), sf, s9', s10', sw]
  | [], _, L, s7, s8, _, _, _ => ⟨s7, s8, by simp [zipL2]⟩
  | _ :: _, [], L, s7, s8, _, _, _ => ⟨s7, s8, by simp [zipL2]⟩
  | y :: ys, v :: vs, L, s7, s8, hf, hn, hl => by
    simp only [List.length_cons] at hl
    have hy := hf y (List.mem_cons_self ..)
    have hn' := List.nodup_cons.mp hn
    have sd := setD_A (V := tuI) keyP L (x, y) v (by unfold lim; omega)
    rw [setA_new _ hy] at sd
    have sd : setD (dicA pkD tuI L) (.tup [tuI x, tuI y]) (tuI v) = .ok (dicA pkD tuI (L ++ [((x, y), v)])) := sd
    obtain ⟨s7', s8', ih⟩ := dl_in ys vs (L ++ [((x, y), v)]) (.sh (tuI y)) (.sh (tuI v)) (fun z hz hm => by
      rw [List.map_append] at hm
      rcases List.mem_append.mp hm with h | h
      · exact hf z (List.mem_cons_of_mem _ hz) h
      · have h : (x, z) = (x, y) := by simpa using h
        injection h with _ h
        exact hn'.1 (h ▸ hz)) hn'.2 (by rw [List.length_append]; simp; omega) (sk := sk) (sf := sf) (sw := sw)
    refine ⟨s7', s8', ?_⟩
    have zz : zipL2 ((y :: ys).map tuI) ((v :: vs).map tuI) = .tup [tuI y, tuI v] :: zipL2 (ys.map tuI) (vs.map tuI) := rfl
    have l2 := l_two
    have st : q_due_l3 (.tup [tuI y, tuI v]) [.sh RW, .sh GR, .sh LO, .sh UP, .sh SM, .ow .flat (dicA pkD tuI L), sk, .sh (tuI x), sf, s7, s8, sw] = .nx [.sh RW, .sh GR, .sh LO, .sh UP, .sh SM, .ow .flat (dicA pkD tuI (L ++ [((x, y), v)])), sk, .sh (tuI x), sf, .sh (tuI y), .sh (tuI v), sw] := by
      generalize dicA pkD tuI (L ++ [((x, y), v)]) = D2 at *
      generalize dicA pkD tuI L = D1 at *
      generalize tuI x = X at *
      generalize tuI y = Y at *
      generalize tuI v = V at *
      simp [q_due_l3, tupG, consG, nilG, nameG, setG, ownF, l2, sd]
    rw [zz, forD_cons, st]
    rw [List.zip_cons_cons, List.map_cons]
    have ea : L ++ ((x, y), v) :: (ys.zip vs).map (fun p => ((x, p.1), p.2)) = (L ++ [((x, y), v)]) ++ (ys.zip vs).map (fun p => ((x, p.1), p.2)) := by simp
    rw [ea]
    exact ih
end
theorem due_dueO (o : Option (List Int)) : dueD o = dueO o := by cases o <;> rfl
/-- one row looked at -/
theorem dl_row {rows : List Str} (hrows : ∀ w ∈ rows, OkS w) {lo : List Int} {M : List (List Int)} {GR UP : D} {a : List Int × Nat} (hM : M.Nodup) (h9 : M.length ≤ 9) {L : List ((List Int × List Int) × List Int)} (hf : ∀ z ∈ L.map (·.1), z.1 ≠ a.1) (hl : L.length + M.length ≤ 1000) {s6 s7 s8 s9 s10 : Slot} :
    (vRow rows lo M.length a.2 = none → q_due_l4 (.tup [.int (a.2 : Nat), tuI a.1]) [.sh (.lst (rows.map D.str)), .sh GR, .sh (tuI lo), .sh UP, .sh (.lst (M.map tuI)), .ow .flat (dicA pkD tuI L), s6, s7, s8, s9, s10, .un] = .rt (.tup [.str "text", .int ((a.2 + 1 : Nat) : Int)])) ∧
    (∀ vs, vRow rows lo M.length a.2 = some vs → ∃ s6' s7' s8' s9' s10', q_due_l4 (.tup [.int (a.2 : Nat), tuI a.1]) [.sh (.lst (rows.map D.str)), .sh GR, .sh (tuI lo), .sh UP, .sh (.lst (M.map tuI)), .ow .flat (dicA pkD tuI L), s6, s7, s8, s9, s10, .un] = .nx [.sh (.lst (rows.map D.str)), .sh GR, .sh (tuI lo), .sh UP, .sh (.lst (M.map tuI)), .ow .flat (dicA pkD tuI (L ++ (M.zip vs).map fun p => ((a.1, p.1), p.2))), s6', s7', s8', s9', s10', .un]) := by
  have ad : addD (.int (a.2 : Nat)) (.int 1) = .ok (.int ((a.2 + 1 : Nat) : Int)) := rfl
  have ln : lenD (.lst (rows.map D.str)) = .ok (.int (rows.length : Nat)) := by rw [lenD_lst, List.length_map]
  have l2 := l_two
  unfold vRow
  cases hr : rows[a.2 + 1]? with
  | none =>
    have hle := List.getElem?_eq_none_iff.mp hr
    have ge : geD (.int ((a.2 + 1 : Nat) : Int)) (.int (rows.length : Nat)) = .ok (.bl true) := by rw [geD_int, decide_eq_true (by omega)]
    refine ⟨fun _ => ?_, fun vs h => (by cases h)⟩
    generalize dicA pkD tuI L = D1 at *
    generalize rows.map D.str = RW at *
    generalize M.map tuI = MM at *
    generalize tuI lo = LO at *
    generalize tuI a.1 = X1 at *
    generalize ((a.2 + 1 : Nat) : Int) = A1 at *
    generalize ((a.2 : Nat) : Int) = A0 at *
    generalize ((rows.length : Nat) : Int) = RN at *
    simp [q_due_l4, tupG, consG, nilG, nameG, ad, ln, ge, l2, -addD_int, -geD_int, -lenD_lst]
  | some w =>
    obtain ⟨hlt, _⟩ := List.getElem?_eq_some_iff.mp hr
    have hw := hrows w (List.mem_of_getElem? hr)
    have ge : geD (.int ((a.2 + 1 : Nat) : Int)) (.int (rows.length : Nat)) = .ok (.bl false) := by rw [geD_int, decide_eq_false (by omega)]
    have ix : ixD (.lst (rows.map D.str)) (.int ((a.2 + 1 : Nat) : Int)) = .ok (.str w) := by
      rw [ixD_lst, atI_of (n := a.2 + 1) (x := D.str w) (by rw [List.getElem?_map, hr]; rfl)]
    obtain ⟨sp, ws⟩ := wordsB hw
    have cc : ∀ r : Env, r.length = 12 → r[2]? = some (.sh (tuI lo)) → q_due_c2 r ((Txt.split w " ").map D.str) = .ok (((Txt.split w " ").map (edR lo)).map dueO) := fun r hr h2 => by
      rw [List.map_map]
      unfold q_due_c2
      refine lcD_gmap D.str (fun t => dueO (edR lo t)) fun t ht => ?_
      have e := q_element_read_ok (rs := lo) (ws t ht)
      rw [due_dueO] at e
      match r, hr, h2 with
      | [z0, z1, z2, z3, z4, z5, z6, z7, z8, z9, z10, z11], _, h2 =>
        cases h2
        refine ⟨_, rfl, rfl, ?_⟩
        generalize tuI lo = LO at *
        simp [wipeR, nameG, e]
    have cc := cc [.sh (.lst (rows.map D.str)), .sh GR, .sh (tuI lo), .sh UP, .sh (.lst (M.map tuI)), .ow .flat (dicA pkD tuI L), .sh (.int (a.2 : Nat)), .sh (tuI a.1), s8, s9, s10, .un] rfl rfl
    have it : itemsD (.lst ((Txt.split w " ").map D.str)) = .ok ((Txt.split w " ").map D.str) := rfl
    have ll : (((Txt.split w " ").map (edR lo)).map dueO).length ≤ lim := by rw [List.length_map, List.length_map]; have := words_len (y := " ") hw; unfold lim; omega
    show (rowR lo M.length w = none → _) ∧ (∀ vs, rowR lo M.length w = some vs → _)
    unfold rowR
    generalize (Txt.split w " ").map (edR lo) = os at *
    have lo' : lenD (.lst (os.map dueO)) = .ok (.int (os.length : Nat)) := by rw [lenD_lst, List.length_map]
    have lm : lenD (.lst (M.map tuI)) = .ok (.int (M.length : Nat)) := by rw [lenD_lst, List.length_map]
    have ne : neD (.int (os.length : Nat)) (.int (M.length : Nat)) = .ok (.bl (!decide (os.length = M.length))) := by
      rw [neD_int]
      congr 3
      exact decide_eq_decide.mpr (by omega)
    have nn := inNone_due os
    by_cases hc : os.length = M.length ∧ os.any Option.isNone = false
    · rw [if_pos hc]
      refine ⟨fun h => (by cases h), fun vs h => ?_⟩
      injection h with h
      rw [decide_eq_true hc.1] at ne
      rw [hc.2] at nn
      have em : os.map dueO = vs.map tuI := by
        rw [← h, List.map_map]
        refine List.map_congr_left fun o ho => ?_
        cases o with
        | some x => rfl
        | none =>
          have := List.any_eq_false.mp hc.2 none ho
          exact absurd rfl this
      have zi : zip2D [.lst (M.map tuI), .lst (os.map dueO)] = .ok (zipL2 (M.map tuI) (vs.map tuI)) := by rw [em]; rfl
      obtain ⟨s9', s10', e⟩ := dl_in (RW := .lst (rows.map D.str)) (GR := GR) (LO := tuI lo) (UP := UP) (SM := .lst (M.map tuI)) (x := a.1) (sk := .sh (.int (a.2 : Nat))) (sf := .sh (.lst (os.map dueO))) (sw := .un) M vs L s9 s10 (fun y _ hm => hf _ hm rfl) hM hl
      refine ⟨.sh (.int (a.2 : Nat)), .sh (tuI a.1), .sh (.lst (os.map dueO)), s9', s10', ?_⟩
      generalize dicA pkD tuI (L ++ (M.zip vs).map fun p => ((a.1, p.1), p.2)) = D2 at *
      generalize dicA pkD tuI L = D1 at *
      generalize zipL2 (M.map tuI) (vs.map tuI) = ZL at *
      generalize os.map dueO = OL at *
      generalize (Txt.split w " ").map D.str = WL at *
      generalize rows.map D.str = RW at *
      generalize M.map tuI = MM at *
      generalize tuI lo = LO at *
      generalize tuI a.1 = X1 at *
      generalize ((a.2 + 1 : Nat) : Int) = A1 at *
      generalize ((a.2 : Nat) : Int) = A0 at *
      generalize ((rows.length : Nat) : Int) = RN at *
      generalize ((os.length : Nat) : Int) = ON at *
      generalize ((M.length : Nat) : Int) = MN at *
      simp [q_due_l4, tupG, consG, nilG, nameG, ad, ln, ge, ix, sp, it, cc, ll, lstD, shareAt, freeze, lo', lm, ne, nn, zi, e, -addD_int, -geD_int, -neD_int, -lenD_lst, -ixD_lst, -itemsD_lst]
    · rw [if_neg hc]
      refine ⟨fun _ => ?_, fun vs h => (by cases h)⟩
      have bad : ((neD (.int (os.length : Nat)) (.int (M.length : Nat)) >>= asB) >>= fun t => if t = true then .ok true else inNone 0 .non (.lst (os.map dueO)) >>= asB) = .ok true := by
        rw [ne, nn]
        by_cases h2 : os.length = M.length
        · have : os.any Option.isNone = true := by
            cases hb : os.any Option.isNone with
            | true => rfl
            | false => exact absurd ⟨h2, hb⟩ hc
          rw [decide_eq_true h2, this]; rfl
        · rw [decide_eq_false h2]; rfl
      clear ne nn
      generalize dicA pkD tuI L = D1 at *
      generalize os.map dueO = OL at *
      generalize (Txt.split w " ").map D.str = WL at *
      generalize rows.map D.str = RW at *
      generalize M.map tuI = MM at *
      generalize tuI lo = LO at *
      generalize tuI a.1 = X1 at *
      generalize ((a.2 + 1 : Nat) : Int) = A1 at *
      generalize ((a.2 : Nat) : Int) = A0 at *
      generalize ((rows.length : Nat) : Int) = RN at *
      generalize ((os.length : Nat) : Int) = ON at *
      generalize ((M.length : Nat) : Int) = MN at *
      simp [q_due_l4, tupG, consG, nilG, nameG, ad, ln, ge, ix, sp, it, cc, ll, lstD, shareAt, freeze, lo', lm, bad, l2, -addD_int, -geD_int, -neD_int, -lenD_lst, -ixD_lst, -itemsD_lst]
theorem dl_out {rows : List Str} (hrows : ∀ w ∈ rows, OkS w) {lo : List Int} {M : List (List Int)} {GR UP : D} (hM : M.Nodup) (h9 : M.length ≤ 9) :
    ∀ (X : List (List Int × Nat)) (L : List ((List Int × List Int) × List Int)) (s6 s7 s8 s9 s10 : Slot), (X.map (·.1)).Nodup → (∀ a ∈ X, ∀ z ∈ L.map (·.1), z.1 ≠ a.1) → L.length + X.length * 9 ≤ 1000 →
    ((∀ a ∈ X, (vRow rows lo M.length a.2).isSome = true) → ∃ s6' s7' s8' s9' s10', forD q_due_l4 (X.map fun a => D.tup [.int (a.2 : Nat), tuI a.1]) [.sh (.lst (rows.map D.str)), .sh GR, .sh (tuI lo), .sh UP, .sh (.lst (M.map tuI)), .ow .flat (dicA pkD tuI L), s6, s7, s8, s9, s10, .un] = .nx [.sh (.lst (rows.map D.str)), .sh GR, .sh (tuI lo), .sh UP, .sh (.lst (M.map tuI)), .ow .flat (dicA pkD tuI (L ++ X.flatMap fun a => prR M a (vRow rows lo M.length))), s6', s7', s8', s9', s10', .un]) ∧
    (∀ a, X.find? (fun a => (vRow rows lo M.length a.2).isNone) = some a → forD q_due_l4 (X.map fun a => D.tup [.int (a.2 : Nat), tuI a.1]) [.sh (.lst (rows.map D.str)), .sh GR, .sh (tuI lo), .sh UP, .sh (.lst (M.map tuI)), .ow .flat (dicA pkD tuI L), s6, s7, s8, s9, s10, .un] = .rt (.tup [.str "text", .int ((a.2 + 1 : Nat) : Int)]))
  | [], L, s6, s7, s8, s9, s10, _, _, _ => ⟨fun _ => ⟨s6, s7, s8, s9, s10, by simp⟩, fun a h => by simp at h⟩
  | a :: X, L, s6, s7, s8, s9, s10, hn, hf, hl => by
    simp only [List.length_cons] at hl
    rw [List.map_cons] at hn ⊢
    have hn' := List.nodup_cons.mp hn
    rw [forD_cons]
    obtain ⟨r1, r2⟩ := dl_row hrows (lo := lo) (M := M) (GR := GR) (UP := UP) (a := a) hM h9 (L := L) (hf a (List.mem_cons_self ..)) (by omega) (s6 := s6) (s7 := s7) (s8 := s8) (s9 := s9) (s10 := s10)
    cases hv : vRow rows lo M.length a.2 with
    | none =>
      rw [r1 hv]
      refine ⟨fun h => ?_, fun b hb => ?_⟩
      · have := h a (List.mem_cons_self ..)
        rw [hv] at this
        cases this
      · rw [List.find?_cons, hv] at hb
        injection hb with hb
        subst hb
        rfl
    | some vs =>
      obtain ⟨x6, x7, x8, x9, x10, e⟩ := r2 vs hv
      have ep : prR M a (vRow rows lo M.length) = (M.zip vs).map fun p => ((a.1, p.1), p.2) := by unfold prR; rw [hv]; rfl
      rw [← ep] at e
      rw [e]
      have pl := prR_len (M := M) (a := a) (v := vRow rows lo M.length)
      obtain ⟨i1, i2⟩ := dl_out hrows (GR := GR) (UP := UP) hM h9 X (L ++ prR M a (vRow rows lo M.length)) x6 x7 x8 x9 x10 hn'.2 (fun b hb z hz => by
        rw [List.map_append] at hz
        rcases List.mem_append.mp hz with h | h
        · exact hf b (List.mem_cons_of_mem _ hb) z h
        · rw [prR_fst h]
          intro e
          exact hn'.1 (e ▸ List.mem_map_of_mem (f := (·.1)) hb)) (by rw [List.length_append]; omega)
      refine ⟨fun h => ?_, fun b hb => ?_⟩
      · obtain ⟨y6, y7, y8, y9, y10, e⟩ := i1 fun b hb => h b (List.mem_cons_of_mem _ hb)
        refine ⟨y6, y7, y8, y9, y10, e.trans ?_⟩
        rw [List.flatMap_cons, List.append_assoc]
      · rw [List.find?_cons, hv] at hb
        exact i2 b hb
theorem due_ok {rows : List Str} (hrows : ∀ w ∈ rows, OkS w) (hl : rows.length ≤ 1000) : d_q_due [.lst (rows.map D.str)] = .ok (toldD (rtO rows)) := by
  have l1 : 1 ≤ lim := by decide
  have l2 : 2 ≤ lim := by decide
  match rows, hrows, hl with
  | [], _, _ =>
    show d_q_due [.lst []] = .ok (.tup [.str "text", .int 0])
    have g : e_q_due [.sh (.lst []), .un, .un, .un, .un, .un, .un, .un, .un, .un, .un, .un] = .rt (.tup [.str "text", .int 0]) := by
      simp [e_q_due, l2]
    exact runD_rt rfl g
  | w :: rest, hrows, hl =>
    have hw := hrows w (List.mem_cons_self ..)
    obtain ⟨sp, ws⟩ := wordsB hw
    have ix : ixD (.lst ((w :: rest).map D.str)) (.int 0) = .ok (.str w) := by
      rw [ixD_lst, show atI ((w :: rest).map D.str) 0 = some (.str w) from atI_of (n := 0) rfl]
    have ln : lenD (.lst ((w :: rest).map D.str)) = .ok (.int ((rest.length + 1 : Nat) : Int)) := by rw [lenD_lst, List.length_map]; rfl
    have q0 : eqD (.int ((rest.length + 1 : Nat) : Int)) (.int 0) = .ok (.bl false) := by rw [eqD_int, decide_eq_false (by omega)]
    have cc : ∀ r : Env, r.length = 12 → q_due_c1 r ((Txt.split w " ").map D.str) = .ok (((Txt.split w " ").map rdR).map dueO) := fun r hr => by
      rw [List.map_map]
      unfold q_due_c1
      refine lcD_gmap D.str (fun t => dueO (rdR t)) fun t ht => ?_
      have e := q_rounds_read_ok (ws t ht)
      rw [due_dueO] at e
      match r, hr with
      | [z0, z1, z2, z3, z4, z5, z6, z7, z8, z9, z10, z11], _ =>
        refine ⟨_, rfl, rfl, ?_⟩
        simp [wipeR, nameG, e]
    have cc := cc [.sh (.lst ((w :: rest).map D.str)), .un, .un, .un, .un, .un, .un, .un, .un, .un, .un, .un] rfl
    have it : itemsD (.lst ((Txt.split w " ").map D.str)) = .ok ((Txt.split w " ").map D.str) := rfl
    have eO : rtO (w :: rest) = match grR w with
        | none => .txt 0
        | some (lo, up) => if 16 < lo.foldl (· * ·) 1 then .low else if 9 < up.foldl (· * ·) 1 then .upp else
          match (mems up).zipIdx.find? (fun a => (vRow (w :: rest) lo (mems up).length a.2).isNone) with
          | some a => .txt (a.2 + 1)
          | none => if (mems up).length + 1 < (w :: rest).length then .txt ((mems up).length + 1) else .tab lo up ((mems up).zipIdx.flatMap fun a => prR (mems up) a (vRow (w :: rest) lo (mems up).length)) := rfl
    have hlR : ((w :: rest).length : Int) = ((rest.length + 1 : Nat) : Int) := rfl
    have hlR2 : (w :: rest).length = rest.length + 1 := rfl
    rw [eO]
    clear eO
    generalize (w :: rest) = rows at *
    generalize hos : (Txt.split w " ").map rdR = os at *
    have eg : grR w = twoR os := by unfold grR; rw [hos]
    have ll : (os.map dueO).length ≤ lim := by rw [List.length_map, ← hos, List.length_map]; have := words_len (y := " ") hw; unfold lim; omega
    have lo' : lenD (.lst (os.map dueO)) = .ok (.int (os.length : Nat)) := by rw [lenD_lst, List.length_map]
    have ne : neD (.int (os.length : Nat)) (.int 2) = .ok (.bl (!decide (os.length = 2))) := by
      rw [neD_int]
      congr 3
      exact decide_eq_decide.mpr (by omega)
    have nn := inNone_due os
    cases hg : grR w with
    | none =>
      rw [hg] at eg
      have bad : ((neD (.int (os.length : Nat)) (.int 2) >>= asB) >>= fun t => if t = true then .ok true else inNone 0 .non (.lst (os.map dueO)) >>= asB) = .ok true := by
        rw [ne, nn]
        by_cases h2 : os.length = 2
        · rw [decide_eq_true h2, grR_none eg.symm h2]; rfl
        · rw [decide_eq_false h2]; rfl
      have g : e_q_due [.sh (.lst (rows.map D.str)), .un, .un, .un, .un, .un, .un, .un, .un, .un, .un, .un] = .rt (.tup [.str "text", .int 0]) := by
        clear ne nn
        generalize os.map dueO = OL at *
        generalize ((os.length : Nat) : Int) = OLN at *
        generalize rows.map D.str = RW at *
        generalize (Txt.split w " ").map D.str = WL at *
        generalize ((rest.length + 1 : Nat) : Int) = LN at *
        simp [e_q_due, ln, q0, ix, sp, it, cc, ll, lstD, shareAt, freeze, lo', bad, l2, -eqD_int, -neD_int, -ixD_lst, -lenD_lst, -itemsD_lst]
      exact runD_rt rfl g
    | some p =>
      obtain ⟨lo, up⟩ := p
      rw [hg] at eg
      have eo := grR_some eg.symm
      obtain ⟨g1, g2⟩ := grR_okG hg
      have hl2 : os.length = 2 := by rw [eo]; rfl
      have han : os.any Option.isNone = false := by rw [eo]; rfl
      have em : os.map dueO = [tuI lo, tuI up] := by rw [eo]; rfl
      rw [decide_eq_true hl2] at ne
      rw [han] at nn
      rw [em] at cc ll lo' nn
      have ll : 2 ≤ lim := l2
      have z1 := q_size_ok g1
      have z2 := q_size_ok g2
      have qm := q_members_ok g2.ok g2.most g2.prod
      clear em eo eg
      dsimp only
      by_cases h16 : 16 < lo.foldl (· * ·) 1
      · rw [if_pos h16]
        have gt : gtD (.int (lo.foldl (· * ·) 1)) (.int 16) = .ok (.bl true) := by rw [gtD_int, decide_eq_true (by omega)]
        show d_q_due [.lst (rows.map D.str)] = .ok (.tup [.str "lower"])
        have g : e_q_due [.sh (.lst (rows.map D.str)), .un, .un, .un, .un, .un, .un, .un, .un, .un, .un, .un] = .rt (.tup [.str "lower"]) := by
          generalize lo.foldl (· * ·) 1 = P1 at *
          generalize tuI lo = LO at *
          generalize tuI up = UP at *
          generalize ((os.length : Nat) : Int) = OLN at *
          generalize rows.map D.str = RW at *
          generalize (Txt.split w " ").map D.str = WL at *
          generalize ((rest.length + 1 : Nat) : Int) = LN at *
          simp [e_q_due, ln, q0, ix, sp, it, cc, lstD, shareAt, freeze, lo', ne, nn, l1, l2, lstG, consG, nilG, nameG, z1, gt, -eqD_int, -neD_int, -gtD_int, -ixD_lst, -lenD_lst, -itemsD_lst]
        exact runD_rt rfl g
      · rw [if_neg h16]
        have gt : gtD (.int (lo.foldl (· * ·) 1)) (.int 16) = .ok (.bl false) := by rw [gtD_int, decide_eq_false (by omega)]
        by_cases h9 : 9 < up.foldl (· * ·) 1
        · rw [if_pos h9]
          have gt2 : gtD (.int (up.foldl (· * ·) 1)) (.int 9) = .ok (.bl true) := by rw [gtD_int, decide_eq_true (by omega)]
          show d_q_due [.lst (rows.map D.str)] = .ok (.tup [.str "upper"])
          have g : e_q_due [.sh (.lst (rows.map D.str)), .un, .un, .un, .un, .un, .un, .un, .un, .un, .un, .un] = .rt (.tup [.str "upper"]) := by
            generalize lo.foldl (· * ·) 1 = P1 at *
            generalize up.foldl (· * ·) 1 = P2 at *
            generalize tuI lo = LO at *
            generalize tuI up = UP at *
            generalize ((os.length : Nat) : Int) = OLN at *
            generalize rows.map D.str = RW at *
            generalize (Txt.split w " ").map D.str = WL at *
            generalize ((rest.length + 1 : Nat) : Int) = LN at *
            simp [e_q_due, ln, q0, ix, sp, it, cc, lstD, shareAt, freeze, lo', ne, nn, l1, l2, lstG, consG, nilG, nameG, z1, z2, gt, gt2, -eqD_int, -neD_int, -gtD_int, -ixD_lst, -lenD_lst, -itemsD_lst]
          exact runD_rt rfl g
        · rw [if_neg h9]
          have gt2 : gtD (.int (up.foldl (· * ·) 1)) (.int 9) = .ok (.bl false) := by rw [gtD_int, decide_eq_false (by omega)]
          have t : OkT lo up := ⟨g1, g2, by omega, by omega⟩
          have l9 := t.mems_le
          have en : enumS [.lst ((mems up).map tuI)] = .ok ((mems up).zipIdx.map fun a => D.tup [.int (a.2 : Nat), tuI a.1]) := by
            rw [enumS_lst, enumL_els]
          obtain ⟨o1, o2⟩ := dl_out hrows (lo := lo) (M := mems up) (GR := .lst [tuI lo, tuI up]) (UP := tuI up) (mems_nodup up) l9 (mems up).zipIdx [] .un .un .un .un .un (by rw [zipIdx_fst]; exact mems_nodup up) (fun a _ z hz => by simp at hz) (by rw [List.length_zipIdx]; simp only [List.length_nil]; omega)
          cases hf : (mems up).zipIdx.find? (fun a => (vRow rows lo (mems up).length a.2).isNone) with
          | some a =>
            have lp := o2 a hf
            have lp : forD q_due_l4 ((mems up).zipIdx.map fun a => D.tup [.int (a.2 : Nat), tuI a.1]) [.sh (.lst (rows.map D.str)), .sh (.lst [tuI lo, tuI up]), .sh (tuI lo), .sh (tuI up), .sh (.lst ((mems up).map tuI)), .ow .flat (.dic [] []), .un, .un, .un, .un, .un, .un] = .rt (.tup [.str "text", .int ((a.2 + 1 : Nat) : Int)]) := lp
            show d_q_due [.lst (rows.map D.str)] = .ok (.tup [.str "text", .int ((a.2 + 1 : Nat) : Int)])
            refine runD_rt rfl (show e_q_due [.sh (.lst (rows.map D.str)), .un, .un, .un, .un, .un, .un, .un, .un, .un, .un, .un] = _ from ?_)
            clear o1 o2 hf
            generalize ((a.2 + 1 : Nat) : Int) = A1 at *
            generalize lo.foldl (· * ·) 1 = P1 at *
            generalize up.foldl (· * ·) 1 = P2 at *
            generalize (mems up).zipIdx.map (fun a => D.tup [.int (a.2 : Nat), tuI a.1]) = ZI at *
            generalize (mems up).map tuI = MM at *
            generalize tuI lo = LO at *
            generalize tuI up = UP at *
            generalize ((os.length : Nat) : Int) = OLN at *
            generalize rows.map D.str = RW at *
            generalize (Txt.split w " ").map D.str = WL at *
            generalize ((rest.length + 1 : Nat) : Int) = LN at *
            simp [e_q_due, ln, q0, ix, sp, it, cc, lstD, shareAt, freeze, lo', ne, nn, l1, l2, lstG, consG, nilG, nameG, z1, z2, gt, gt2, qm, en, lp, -eqD_int, -neD_int, -gtD_int, -addD_int, -ixD_lst, -lenD_lst, -itemsD_lst, -enumS_lst]
          | none =>
            have hall : ∀ a ∈ (mems up).zipIdx, (vRow rows lo (mems up).length a.2).isSome = true := fun a ha => by
              have := List.find?_eq_none.mp hf a ha
              cases hv : vRow rows lo (mems up).length a.2 with
              | some _ => rfl
              | none => rw [hv] at this; exact absurd rfl this
            obtain ⟨s6, s7, s8, s9, s10, lp⟩ := o1 hall
            rw [List.nil_append] at lp
            generalize ((mems up).zipIdx.flatMap fun a => prR (mems up) a (vRow rows lo (mems up).length)) = L at *
            have ln2 : lenD (.lst ((mems up).map tuI)) = .ok (.int ((mems up).length : Nat)) := by rw [lenD_lst, List.length_map]
            have ad : addD (.int ((mems up).length : Nat)) (.int 1) = .ok (.int (((mems up).length + 1 : Nat) : Int)) := rfl
            have gt3 : gtD (.int ((rest.length + 1 : Nat) : Int)) (.int (((mems up).length + 1 : Nat) : Int)) = .ok (.bl (decide ((mems up).length + 1 < rows.length))) := by
              rw [gtD_int]; congr 2; exact decide_eq_decide.mpr (by omega)
            obtain ⟨ks, vs', hd⟩ : ∃ ks vs, dicA pkD tuI L = .dic ks vs := ⟨_, _, rfl⟩
            have lp : forD q_due_l4 ((mems up).zipIdx.map fun a => D.tup [.int (a.2 : Nat), tuI a.1]) [.sh (.lst (rows.map D.str)), .sh (.lst [tuI lo, tuI up]), .sh (tuI lo), .sh (tuI up), .sh (.lst ((mems up).map tuI)), .ow .flat (.dic [] []), .un, .un, .un, .un, .un, .un] = .nx [.sh (.lst (rows.map D.str)), .sh (.lst [tuI lo, tuI up]), .sh (tuI lo), .sh (tuI up), .sh (.lst ((mems up).map tuI)), .ow .flat (dicA pkD tuI L), s6, s7, s8, s9, s10, .un] := lp
            clear o1 o2
            dsimp only
            by_cases hmore : (mems up).length + 1 < rows.length
            · rw [if_pos hmore]
              rw [decide_eq_true hmore] at gt3
              rw [hd] at lp
              show d_q_due [.lst (rows.map D.str)] = .ok (.tup [.str "text", .int (((mems up).length + 1 : Nat) : Int)])
              refine runD_rt rfl (show e_q_due [.sh (.lst (rows.map D.str)), .un, .un, .un, .un, .un, .un, .un, .un, .un, .un, .un] = _ from ?_)
              generalize (((mems up).length + 1 : Nat) : Int) = M1 at *
              generalize (((mems up).length : Nat) : Int) = M0 at *
              generalize lo.foldl (· * ·) 1 = P1 at *
              generalize up.foldl (· * ·) 1 = P2 at *
              generalize (mems up).zipIdx.map (fun a => D.tup [.int (a.2 : Nat), tuI a.1]) = ZI at *
              generalize (mems up).map tuI = MM at *
              generalize tuI lo = LO at *
              generalize tuI up = UP at *
              generalize ((os.length : Nat) : Int) = OLN at *
              generalize rows.map D.str = RW at *
              generalize (Txt.split w " ").map D.str = WL at *
              generalize ((rest.length + 1 : Nat) : Int) = LN at *
              simp [e_q_due, ln, q0, ix, sp, it, cc, lstD, shareAt, freeze, lo', ne, nn, l1, l2, lstG, consG, nilG, nameG, z1, z2, gt, gt2, qm, en, lp, ln2, ad, gt3, -eqD_int, -neD_int, -gtD_int, -addD_int, -ixD_lst, -lenD_lst, -itemsD_lst, -enumS_lst]
            · rw [if_neg hmore]
              rw [decide_eq_false hmore] at gt3
              show d_q_due [.lst (rows.map D.str)] = .ok (.tup [.str "read", dicA pkD tuI L])
              rw [hd] at lp ⊢
              refine runD_rt rfl (show e_q_due [.sh (.lst (rows.map D.str)), .un, .un, .un, .un, .un, .un, .un, .un, .un, .un, .un] = _ from ?_)
              generalize (((mems up).length + 1 : Nat) : Int) = M1 at *
              generalize (((mems up).length : Nat) : Int) = M0 at *
              generalize lo.foldl (· * ·) 1 = P1 at *
              generalize up.foldl (· * ·) 1 = P2 at *
              generalize (mems up).zipIdx.map (fun a => D.tup [.int (a.2 : Nat), tuI a.1]) = ZI at *
              generalize (mems up).map tuI = MM at *
              generalize tuI lo = LO at *
              generalize tuI up = UP at *
              generalize ((os.length : Nat) : Int) = OLN at *
              generalize rows.map D.str = RW at *
              generalize (Txt.split w " ").map D.str = WL at *
              generalize ((rest.length + 1 : Nat) : Int) = LN at *
              simp [e_q_due, ln, q0, ix, sp, it, cc, lstD, shareAt, freeze, lo', ne, nn, l1, l2, lstG, consG, nilG, nameG, z1, z2, gt, gt2, qm, en, lp, ln2, ad, gt3, frzAt, -eqD_int, -neD_int, -gtD_int, -addD_int, -ixD_lst, -lenD_lst, -itemsD_lst, -enumS_lst]
theorem same13 {rows : List Str} (hrows : ∀ w ∈ rows, OkS w) (hl : rows.length ≤ 1000) : eqTD (toldD (rtO rows)) (toldD (rtO rows)) = .ok (.bl true) := by
  have ra := read_any hrows hl
  cases hr : rtO rows with
  | txt n =>
    have e1 : eqD (.str "text") (.str "text") = .ok (.bl true) := by kernel_rfl
    have e2 : eqD (.int (n : Nat)) (.int (n : Nat)) = .ok (.bl true) := by simp
    show (if eqTs [.str "text", .int (n : Nat)] [.str "text", .int (n : Nat)] = true then Res.ok (D.bl true) else .bad) = _
    rw [if_pos]
    unfold eqTs eqTs eqTs
    rw [e1, e2]
    rfl
  | low => kernel_rfl
  | upp => kernel_rfl
  | tab lo up L =>
    rw [hr] at ra
    obtain ⟨c, _, _, ec, _⟩ := ra
    have e1 : eqD (.str "read") (.str "read") = .ok (.bl true) := by kernel_rfl
    have e2 := eqD_cD up c
    have e2 : eqD (dicF pkD tuI (prs up) fun p => c p.1 p.2) (dicF pkD tuI (prs up) fun p => c p.1 p.2) = .ok (.bl true) := e2
    rw [← ec] at e2
    show (if eqTs [.str "read", dicA pkD tuI L] [.str "read", dicA pkD tuI L] = true then Res.ok (D.bl true) else .bad) = _
    rw [if_pos]
    unfold eqTs eqTs eqTs
    rw [e1, e2]
    rfl
theorem rows_same {rows : List Str} (hrows : ∀ w ∈ rows, OkS w) : eqD (.lst (rows.map D.str)) (.lst (rows.map D.str)) = .ok (.bl true) := by
  have okR : okQ 64 (.lst (rows.map D.str)) = true := by
    show (rows.map D.str).all (okQ 63) = true
    rw [List.all_eq_true]
    intro d hd
    obtain ⟨w, hw, rfl⟩ := List.mem_map.mp hd
    exact (hrows w hw).ok 63
  rw [eqD_ok okR okR, eqQ_refl 64 _ okR]
theorem q_carries_wide {lo up ns : List Int} {k0 : Int} (g1 : OkG lo) (g2 : OkG up) (h12 : (mems up).length ≤ 12) (h0 : 0 ≤ k0) (h1 : k0 ≤ 10 ^ 20) : ∃ c, OkC lo up c ∧ d_q_carries [tuI lo, tuI up, .scr ns, .int k0] = .ok (dicF pkD tuI (prs up) fun p => c p.1 p.2) := by
  have m := q_members_ok g2.ok g2.most g2.prod
  have l81 : (mems up).length * (mems up).length ≤ 144 := Nat.mul_le_mul h12 h12
  obtain ⟨r1, lp1, s5, rfl⟩ := forD_row (pre0 := lo) (f := q_carries_l1) D.int (fun pre r => ∃ s5, r = [.sh (tuI lo), .sh (tuI up), .sh (.scr ns), .sh (.int k0), .sh (.int (pre.foldl (· * ·) 1)), s5, .un, .un, .un, .un, .un]) (ds := lo) (pre := []) (r := [.sh (tuI lo), .sh (tuI up), .sh (.scr ns), .sh (.int k0), .sh (.int 1), .un, .un, .un, .un, .un, .un]) (fun pre n hpre r ⟨s5, e⟩ => by
    subst e
    obtain ⟨post, hpost⟩ := hpre
    have hn : n ∈ lo := by rw [← hpost]; simp
    have n2 := g1.ok.two n hn
    have n3 := g1.most n hn
    have q := mulD_small (i := pre.foldl (· * ·) 1) (j := n) (.inr ⟨by omega, by omega⟩)
    refine ⟨_, ?_, .sh (.int n), rfl⟩
    rw [prod_app]
    simp [q_carries_l1, q]) rfl ⟨_, rfl⟩
  simp only [List.nil_append] at lp1
  have M1 : 1 ≤ lo.foldl (· * ·) 1 := foldl_pos lo 1 (by omega) g1.ok.two
  have M2 := g1.prod
  generalize lo.foldl (· * ·) 1 = M at *
  have dv : ∀ i : Int, divD (.int i) (.int M) = .ok (.int (i / M)) := fun i => divD_ok (by omega) (by have := bits_lt (i := M) (n := 8) (by omega) (by omega); omega)
  let E (L : List ((List Int × List Int) × List Int)) (s7 s8 s9 s10 : Slot) : Env := [.sh (tuI lo), .sh (tuI up), .sh (.scr ns), .sh (.int k0), .sh (.int M), s5, .ow .flat (dicA pkD tuI L), s7, s8, s9, s10]
  obtain ⟨L, r2, lp2, ⟨s7, s8, s9, s10, rfl⟩, hk, hv⟩ := fill2 (N := 144) (lo := lo) (up := up) (outer := q_carries_l3) (inner := q_carries_l2) (fun p : List Int × Nat => .tup [.int (p.2 : Nat), tuI p.1]) (·.1)
    (fun L r => ∃ s7 s8 s9 s10, r = E L s7 s8 s9 s10) (fun L a r => ∃ (s7 : Slot) (cv : Int) (s10 : Slot), r = E L s7 (.sh (tuI a.1)) (.sh (.int cv)) s10)
    (X := (mems up).zipIdx) (L := []) (r := E [] .un .un .un .un) (by simpa using l81) (by rw [zipIdx_fst]; exact mems_nodup up) (by simp)
    (fun L hL a ha y hy hm r ⟨s7, cv, s10, e⟩ => by
      subst e
      obtain ⟨v, hv, ev⟩ := q_element_ok (rs := lo) (c := cv) g1.ok g1.most
      refine ⟨v, E (setA L (a.1, y) v) s7 (.sh (tuI a.1)) (.sh (.int (cv / M))) (.sh (tuI y)), hv, ?_, _, _, _, rfl⟩
      have l2 := l_two
      have sd : setD (dicA pkD tuI L) (.tup [tuI a.1, tuI y]) (tuI v) = .ok (dicA pkD tuI (setA L (a.1, y) v)) := setD_A (V := tuI) keyP L (a.1, y) v (by unfold lim; omega)
      simp only [E]
      simp [q_carries_l2, setG, ownF, ev, l2, sd, dv])
    (fun L a ha r ⟨s7, s8, s9, s10, e⟩ => by
      subst e
      obtain ⟨h3, h4⟩ := mem_zipIdx_lt ha
      have ce := cell_ok ns (k0 + (a.2 : Nat)) (by omega) (by omega)
      refine ⟨E L (.sh (.int (a.2 : Nat))) (.sh (tuI a.1)) (.sh (.int (cellV ns (k0 + (a.2 : Nat))))) s10, ⟨_, _, _, rfl⟩, fun L' r2 e2 ⟨s7', cv, s10', p2⟩ => ⟨r2, ?_, ?_⟩⟩
      · simp only [E] at e2 ⊢
        simp [q_carries_l3, ce, m, e2]
      · subst p2
        exact ⟨_, _, _, _, rfl⟩) ⟨_, _, _, _, rfl⟩
  simp only [List.nil_append] at *
  have hk : L.map (·.1) = prs up := by
    rw [hk]
    have : ∀ X : List (List Int × Nat), (X.flatMap fun a => (mems up).map fun y => (a.1, y)) = (X.map (·.1)).flatMap fun x => (mems up).map fun y => (x, y) := fun X => by rw [List.flatMap_map]
    rw [this, zipIdx_fst]
    rfl
  obtain ⟨c, hc, e⟩ := toF hk hv
  refine ⟨c, hc, ?_⟩
  rw [← e]
  rw [← enumL_els] at lp2
  have en : enumS [.lst ((mems up).map tuI)] = .ok (enumL ((mems up).map tuI)) := rfl
  first | refine runD_rt rfl ?_ | refine runO_rt rfl ?_
  simp only [startD, N_q_carries, List.length_cons, List.length_nil, List.map_cons, List.map_nil, Nat.reduceAdd, Nat.reduceSub, Nat.zero_add, List.replicate, List.cons_append, List.nil_append]
  simp only [E] at lp2
  rw [show (dicA pkD tuI ([] : List ((List Int × List Int) × List Int))) = .dic [] [] from rfl] at lp2
  simp [e_q_carries, lp1, m, en, lp2]
  rfl
structure RwOk (n m : Nat) (rows : List Str) : Prop where
  len : rows.length ≤ n
  ok : ∀ w ∈ rows, (tl w).length ≤ m ∧ ∀ c ∈ tl w, c < 256
theorem RwOk.okS {n m : Nat} {rows : List Str} (h : RwOk n m rows) (hm : m ≤ 1000) : ∀ w ∈ rows, OkS w := fun w hw => ⟨by rw [tl_len]; have := (h.ok w hw).1; omega, (h.ok w hw).2⟩
theorem lin_len {ws : List Str} {n : Nat} (hw : ∀ w ∈ ws, (tl w).length ≤ n) : (tl (linT ws)).length ≤ ws.length * (n + 1) := by
  have hs : (ws.map Str.length).sum ≤ ws.length * n := sum_le_mul _ fun w hw' => by rw [tl_len]; exact hw w hw'
  have hm : ws.length * (n + 1) = ws.length * n + ws.length := Nat.mul_succ _ _
  have et : tl (linT ws) = TL.joinL (tl (" " : Str)) (ws.map tl) := by
    unfold linT
    rw [TL.join_eq]
    exact TL.tl_join _ _
  obtain ⟨j1, _⟩ := joinL_in (tl (" " : Str)) (ws.map tl)
  have e3 : ((ws.map tl).map List.length).sum = (ws.map Str.length).sum := by
    rw [List.map_map]
    congr 1
  rw [e3, blank_tl, List.length_map] at j1
  simp only [List.length_singleton] at j1
  rw [et]
  rw [blank_tl]
  omega
theorem q_texts_ok (ns : List Int) : ∃ rows, RwOk 13 168 rows ∧ d_q_texts [.scr ns] = .ok (.lst (rows.map D.str)) := by
  have ec0 := cell_ok ns 0 (by omega) (by omega)
  have ec1 := cell_ok ns 1 (by omega) (by omega)
  have ec2 := cell_ok ns 2 (by omega) (by omega)
  have m4 := modD_ok (i := cellV ns 2) (j := 4) (by omega)
  have d4 := divD_ok (i := cellV ns 2) (j := 4) (by omega) (bits_le (by omega))
  have m44 := modD_ok (i := cellV ns 2 / 4) (j := 4) (by omega)
  have pick : ∀ (a b : Int) (c : Int), ∃ m : Int, (m = a ∨ m = b) ∧ ixD (.lst [.int a, .int a, .int a, .int b]) (.int (c % 4)) = .ok (.int m) := fun a b c => by
    have h0 := Int.emod_nonneg c (b := 4) (by omega)
    have h1 := Int.emod_lt_of_pos c (b := 4) (by omega)
    have : c % 4 = 0 ∨ c % 4 = 1 ∨ c % 4 = 2 ∨ c % 4 = 3 := by omega
    rcases this with e | e | e | e <;> rw [e]
    · exact ⟨a, .inl rfl, rfl⟩
    · exact ⟨a, .inl rfl, rfl⟩
    · exact ⟨a, .inl rfl, rfl⟩
    · exact ⟨b, .inr rfl, rfl⟩
  obtain ⟨p1, hp1, ix1⟩ := pick 16 60 (cellV ns 2)
  obtain ⟨p2, hp2, ix2⟩ := pick 5 12 (cellV ns 2 / 4)
  obtain ⟨lo, om, er⟩ := q_rounds_ok (c := cellV ns 0) (most := p1) (gr := 16) (by omega) (by omega) (by omega)
  obtain ⟨up, om2, er2⟩ := q_rounds_ok (c := cellV ns 1) (most := p2) (gr := 12) (by omega) (by omega) (by omega)
  have g1 := om.ok
  have g2 := om2.ok
  have h12 : (mems up).length ≤ 12 := by
    have e := mems_len (rs := up) (fun n hn => by have := g2.ok.two n hn; omega)
    have := om2.prod
    omega
  obtain ⟨c, hc, qc⟩ := q_carries_wide (ns := ns) (k0 := 9) g1 g2 h12 (by omega) (by omega)
  have qm := q_members_ok g2.ok g2.most g2.prod
  have t1 := q_rs_text (rnd_lt g1) g1.ok.len
  have t2 := q_rs_text (rnd_lt g2) g2.ok.len
  obtain ⟨f1, f2, _⟩ := fst_ok g1 g2
  obtain ⟨o1, o1'⟩ := rsT_ok (rnd_lt g1) g1.ok.len
  obtain ⟨o2, o2'⟩ := rsT_ok (rnd_lt g2) g2.ok.len
  have bo : OkS (" " : Str) := ⟨by decide +kernel, by decide +kernel⟩
  have a1 := addS o1 bo
  rw [a1] at f1
  have f1 : addD (.str (rsT lo ++ " ")) (.str (rsT up)) = .ok (.str (fstT lo up)) := f1
  have it : itemsD (.lst ((mems up).map tuI)) = .ok ((mems up).map tuI) := rfl
  obtain ⟨ks, vs, hd⟩ : ∃ ks vs, (dicF pkD tuI (prs up) fun p => c p.1 p.2) = .dic ks vs := ⟨_, _, rfl⟩
  have gc : ∀ x y, OkE up x → OkE up y → ixD (.dic ks vs) (.tup [tuI x, tuI y]) = .ok (tuI (c x y)) := fun x y hx hy => by rw [← hd]; exact getC (lo := lo) c hx hy
  have wok : ∀ x, OkE up x → ∀ w ∈ (mems up).map (fun y => elT (c x y)), OkS w ∧ (tl w).length ≤ 13 := fun x hx w hw => by
    obtain ⟨y, hy, rfl⟩ := List.mem_map.mp hw
    have hE := hc x y hx (mem_mems.mp hy)
    obtain ⟨e1, e2⟩ := els_lt g1 hE
    obtain ⟨a1, a2⟩ := elT_ok e1 e2
    have := hE.len
    have := om.len
    exact ⟨a1, by omega⟩
  have rwj : ∀ x, OkE up x → joinD (.str " ") (.lst ((mems up).map fun y => D.str (elT (c x y)))) = .ok (.str (rwT up c x)) ∧ (tl (rwT up c x)).length ≤ 168 ∧ ∀ c' ∈ tl (rwT up c x), c' < 256 := fun x hx => by
    obtain ⟨j, k⟩ := lin_ok (wok x hx) (by rw [List.length_map]; omega)
    have em : ((mems up).map fun y => elT (c x y)).map D.str = (mems up).map fun y => D.str (elT (c x y)) := by rw [List.map_map]; rfl
    rw [em] at j
    have l := lin_len (n := 13) fun w hw => (wok x hx w hw).2
    rw [List.length_map] at l
    exact ⟨j, by unfold rwT; omega, k.c⟩
  obtain ⟨r', lp, s6, s7, rfl⟩ := forD_row (pre0 := mems up) (f := q_texts_l2) tuI (fun pre r => ∃ s6 s7, r = [.sh (.scr ns), .sh (tuI lo), .sh (tuI up), .ow .flat (.lst ((fstT lo up :: pre.map (rwT up c)).map D.str)), .sh (.lst ((mems up).map tuI)), .sh (.dic ks vs), s6, s7]) (ds := mems up) (pre := []) (r := [.sh (.scr ns), .sh (tuI lo), .sh (tuI up), .ow .flat (.lst [.str (fstT lo up)]), .sh (.lst ((mems up).map tuI)), .sh (.dic ks vs), .un, .un]) (fun pre x hx r ⟨s6, s7, e⟩ => by
    subst e
    have hxm : x ∈ mems up := hx.subset (List.mem_append_right _ (List.mem_singleton.mpr rfl))
    have hxE := mem_mems.mp hxm
    have pl : pre.length ≤ 12 := by
      have := hx.length_le
      rw [List.length_append] at this
      omega
    obtain ⟨j, _, _⟩ := rwj x hxE
    have cc : ∀ r : Env, r.length = 8 → r[5]? = some (.sh (.dic ks vs)) → r[6]? = some (.sh (tuI x)) → q_texts_c1 r ((mems up).map tuI) = .ok ((mems up).map fun y => D.str (elT (c x y))) := fun r hr h5 h6 => by
      unfold q_texts_c1
      refine lcD_gmap tuI (fun y => D.str (elT (c x y))) fun y hy => ?_
      have e := gc x y hxE (mem_mems.mp hy)
      obtain ⟨e1, e2⟩ := els_lt g1 (hc x y hxE (mem_mems.mp hy))
      have e3 := q_el_text e1 e2
      have l2 := l_two
      match r, hr, h5, h6 with
      | [z0, z1, z2, z3, z4, z5, z6, z7], _, h5, h6 =>
        cases h5
        cases h6
        refine ⟨_, rfl, rfl, ?_⟩
        generalize tuI x = X at *
        generalize tuI y = Y at *
        generalize tuI (c x y) = C at *
        simp [wipeR, nameG, e, e3, l2]
    have cc := cc [.sh (.scr ns), .sh (tuI lo), .sh (tuI up), .ow .flat (.lst ((fstT lo up :: pre.map (rwT up c)).map D.str)), .sh (.lst ((mems up).map tuI)), .sh (.dic ks vs), .sh (tuI x), s7] rfl rfl rfl
    have ll : ((mems up).map fun y => D.str (elT (c x y))).length ≤ lim := by rw [List.length_map]; unfold lim; omega
    have lp : ((fstT lo up :: pre.map (rwT up c)).map D.str).length < lim := by rw [List.length_map, List.length_cons, List.length_map]; unfold lim; omega
    have ea : (fstT lo up :: (pre ++ [x]).map (rwT up c)).map D.str = (fstT lo up :: pre.map (rwT up c)).map D.str ++ [.str (rwT up c x)] := by simp
    refine ⟨[.sh (.scr ns), .sh (tuI lo), .sh (tuI up), .ow .flat (.lst ((fstT lo up :: pre.map (rwT up c)).map D.str ++ [.str (rwT up c x)])), .sh (.lst ((mems up).map tuI)), .sh (.dic ks vs), .sh (tuI x), s7], ?_, _, _, by rw [ea]⟩
    generalize (fstT lo up :: pre.map (rwT up c)).map D.str = RR at *
    generalize ((mems up).map fun y => D.str (elT (c x y))) = WW at *
    generalize (mems up).map tuI = MM at *
    generalize tuI x = X at *
    generalize tuI lo = LO at *
    generalize tuI up = UP at *
    simp [q_texts_l2, nameG, appG, ownL, it, cc, ll, lstD, j, lp, isTxt, -itemsD_lst]) rfl ⟨_, _, rfl⟩
  rw [List.nil_append] at lp
  refine ⟨fstT lo up :: (mems up).map (rwT up c), ⟨by rw [List.length_cons, List.length_map]; omega, fun w hw => ?_⟩, ?_⟩
  · rcases List.mem_cons.mp hw with rfl | hw
    · refine ⟨?_, f2.c⟩
      have := lin_len (ws := [rsT lo, rsT up]) (n := 13) (fun w hw => by
        have := om.len
        have := om2.len
        simp only [List.mem_cons, List.not_mem_nil, or_false] at hw
        rcases hw with rfl | rfl <;> omega)
      simp only [List.length_cons, List.length_nil] at this
      unfold fstT
      omega
    · obtain ⟨x, hx, rfl⟩ := List.mem_map.mp hw
      exact (rwj x (mem_mems.mp hx)).2
  · have l1 : 1 ≤ lim := by decide
    have l4 : 4 ≤ lim := by decide
    rw [hd] at qc
    refine runD_rt rfl ?_
    simp only [startD, N_q_texts, List.length_cons, List.length_nil, List.map_cons, List.map_nil, Nat.reduceAdd, Nat.reduceSub, Nat.zero_add, List.replicate, List.cons_append, List.nil_append]
    generalize hRR : (fstT lo up :: (mems up).map (rwT up c)).map D.str = RR at *
    have hRR' : RR = D.str (fstT lo up) :: List.map (D.str ∘ rwT up c) (mems up) := by rw [← hRR]; simp
    generalize (mems up).map tuI = MM at *
    generalize tuI lo = LO at *
    generalize tuI up = UP at *
    generalize rsT lo ++ " " = FB at *
    generalize cellV ns 2 / 4 % 4 = C24 at *
    generalize cellV ns 2 / 4 = C23 at *
    generalize cellV ns 2 % 4 = C22 at *
    generalize cellV ns 2 = C2 at *
    generalize cellV ns 0 = C0 at *
    generalize cellV ns 1 = C1 at *
    simp [e_q_texts, ec0, ec1, ec2, m4, d4, m44, ix1, ix2, er, er2, t1, t2, a1, f1, l1, l4, lstD, qm, qc, it, lp, freeze, -itemsD_lst, -ixD_lst]
    exact hRR'
theorem cut_rw {rows : List Str} (lo hi : Option Int) : ∃ r' : List Str, sliceD (.lst (rows.map D.str)) lo hi = .ok (.lst (r'.map D.str)) ∧ r'.length ≤ rows.length ∧ ∀ w ∈ r', w ∈ rows := by
  refine ⟨(rows.drop (HT.sIx rows.length 0 lo)).take (HT.sIx rows.length rows.length hi - HT.sIx rows.length 0 lo), ?_, ?_, fun w hw => List.mem_of_mem_drop (List.mem_of_mem_take hw)⟩
  · show Res.ok (D.lst (cutD (rows.map D.str) lo hi)) = _
    unfold cutD
    rw [List.length_map, List.map_take, List.map_drop]
  · rw [List.length_take, List.length_drop]
    omega
theorem cut_okS {t : Str} (h : OkS t) (lo hi : Option Int) : sliceD (.str t) lo hi = .ok (.str (cutS t lo hi)) ∧ (tl (cutS t lo hi)).length ≤ (tl t).length ∧ ∀ c ∈ tl (cutS t lo hi), c < 256 := by
  refine ⟨?_, ?_, fun c hc => ?_⟩
  · show (if t.length ≤ lim then Res.ok (D.str (cutS t lo hi)) else .bad) = _
    rw [if_pos (by have := h.len; unfold lim; omega)]
  · rw [← tl_len, ← tl_len]
    exact cutS_length t lo hi
  · refine h.c c ?_
    have : c ∈ (t.cps.toList.drop (HT.sIx t.length 0 lo)).take (HT.sIx t.length t.length hi - HT.sIx t.length 0 lo) := hc
    exact List.mem_of_mem_drop (List.mem_of_mem_take this)
theorem add_rw {a b : List Str} (h : a.length + b.length ≤ 100000) : addD (.lst (a.map D.str)) (.lst (b.map D.str)) = .ok (.lst ((a ++ b).map D.str)) := by
  show (if (a.map D.str).length + (b.map D.str).length ≤ lim then Res.ok (D.lst (a.map D.str ++ b.map D.str)) else .bad) = _
  rw [if_pos (by rw [List.length_map, List.length_map]; unfold lim; omega), List.map_append]
theorem add_tx {a b : Str} (h : (tl a).length + (tl b).length ≤ 100000) (ca : ∀ c ∈ tl a, c < 256) (cb : ∀ c ∈ tl b, c < 256) : addD (.str a) (.str b) = .ok (.str (a ++ b)) ∧ (tl (a ++ b)).length = (tl a).length + (tl b).length ∧ ∀ c ∈ tl (a ++ b), c < 256 := by
  have et : tl (a ++ b) = tl a ++ tl b := TL.tl_append a b
  refine ⟨?_, by rw [et, List.length_append], fun c hc => ?_⟩
  · show (if a.length + b.length ≤ lim then Res.ok (D.str (a ++ b)) else .bad) = _
    rw [if_pos (by rw [tl_len, tl_len]; unfold lim; omega)]
  · rw [et] at hc
    rcases List.mem_append.mp hc with h | h
    · exact ca c h
    · exact cb c h
theorem signs13 : tl ("0123456789x,- x-, 1x" : Str) = [48, 49, 50, 51, 52, 53, 54, 55, 56, 57, 120, 44, 45, 32, 120, 45, 44, 32, 49, 120] := by decide +kernel
theorem sum_join {S : List Nat} : ∀ ps : List (List Nat), (TL.joinL S (ps.drop 1)).length ≤ (TL.joinL S ps).length
  | [] => by simp
  | [p] => by show (TL.joinL S []).length ≤ _; unfold TL.joinL; simp
  | p :: q :: r => by
    show (TL.joinL S (q :: r)).length ≤ (p ++ (S ++ TL.joinL S (q :: r))).length
    rw [List.length_append, List.length_append]
    omega
/-- a text's words, the first one left out -/
theorem less_ok {t : Str} (h : OkS t) : ∃ t', sliceD (.lst ((Txt.split t " ").map D.str)) (some 1) none = .ok (.lst (((Txt.split t " ").drop 1).map D.str)) ∧ joinD (.str " ") (.lst (((Txt.split t " ").drop 1).map D.str)) = .ok (.str t') ∧ (tl t').length ≤ (tl t).length ∧ ∀ c ∈ tl t', c < 256 := by
  have b1 : (" " : Str).length = 1 := by decide +kernel
  have js : tl t = TL.joinL (tl (" " : Str)) ((Txt.split t " ").map tl) := by
    rw [← TL.tl_join]
    exact (congrArg tl (StrLaws.join_split t " ")).symm
  obtain ⟨sp, ws⟩ := wordsB h
  have wl := words_len (y := " ") h
  have et : tl (Txt.join " " ((Txt.split t " ").drop 1)) = TL.joinL (tl (" " : Str)) (((Txt.split t " ").map tl).drop 1) := by
    rw [TL.join_eq, ← List.map_drop]
    exact TL.tl_join _ _
  have e1 := sum_join (S := tl (" " : Str)) ((Txt.split t " ").map tl)
  rw [← js, ← et] at e1
  refine ⟨Txt.join " " ((Txt.split t " ").drop 1), ?_, join_okT ?_, e1, fun c hc => ?_⟩
  · show Res.ok (D.lst (cutD ((Txt.split t " ").map D.str) (some 1) none)) = _
    unfold cutD
    rw [List.length_map]
    generalize Txt.split t " " = l
    congr 2
    match l with
    | [] => rfl
    | a :: l =>
      have s1 : HT.sIx (a :: l).length 0 (some 1) = 1 := by
        unfold HT.sIx
        simp
      have s2 : HT.sIx (a :: l).length (a :: l).length none = (a :: l).length := rfl
      rw [s1, s2]
      refine List.take_of_length_le ?_
      rw [List.length_drop, List.length_map]
      exact Nat.le_refl _
  · have s1 : (((Txt.split t " ").drop 1).map Str.length).sum ≤ ((Txt.split t " ").drop 1).length * 1000 := sum_le_mul _ fun w hw => (ws w (List.mem_of_mem_drop hw)).len
    have s2 : ((Txt.split t " ").drop 1).length ≤ (Txt.split t " ").length := by rw [List.length_drop]; omega
    rw [b1]
    omega
  · rw [et] at hc
    have bl : tl (" " : Str) = [32] := blank_tl
    rcases (joinL_in _ _).2 c hc with h2 | ⟨p, hp, h2⟩
    · rw [bl, List.mem_singleton] at h2
      omega
    · obtain ⟨w, hw, rfl⟩ := List.mem_map.mp (List.mem_of_mem_drop hp)
      exact (ws w hw).c c h2
theorem spl_ne (S : List Nat) : ∀ (k : Nat) (acc l : List Nat), TL.spl S k acc l ≠ []
  | k, acc, [] => by rw [TL.spl_nil]; simp
  | 0, acc, c :: r => by
    by_cases hp : TL.pre S (c :: r) = true
    · rw [TL.spl_hit hp]; simp
    · rw [TL.spl_miss (Bool.eq_false_iff.mpr hp)]
      exact spl_ne S 0 _ r
  | k + 1, acc, c :: r => spl_ne S k acc r
/-- the first word -/
theorem fst_word {t : Str} (h : OkS t) : ∃ w, ixD (.lst ((Txt.split t " ").map D.str)) (.int 0) = .ok (.str w) ∧ (tl w).length ≤ (tl t).length ∧ ∀ c ∈ tl w, c < 256 := by
  have bl : tl (" " : Str) = [32] := blank_tl
  have e := TL.split_spl t " " (by rw [show TL.tl (" " : Str) = [32] from blank_tl]; simp) (TL.kind_ok (by decide +kernel))
  rw [show TL.tl (" " : Str) = [32] from blank_tl] at e
  have hin := spl_in [32] (TL.tl t) 0 []
  rw [← e] at hin
  obtain ⟨sp, ws⟩ := wordsB h
  generalize Txt.split t " " = l at *
  match l with
  | [] => exact absurd e.symm (spl_ne _ _ _ _)
  | w :: l =>
    obtain ⟨h1, h2⟩ := hin (TL.tl w) (List.mem_map_of_mem (List.mem_cons_self ..))
    refine ⟨w, ?_, by simpa using h1, (ws w (List.mem_cons_self ..)).c⟩
    rw [ixD_lst, show atI ((w :: l).map D.str) 0 = some (.str w) from atI_of (n := 0) rfl]
theorem RwOk.sub {n m : Nat} {rows r : List Str} (h : RwOk n m rows) (hs : ∀ w ∈ r, w ∈ rows) : ∀ w ∈ r, (tl w).length ≤ m ∧ ∀ c ∈ tl w, c < 256 := fun w hw => h.ok w (hs w hw)
/-- what the walk of a change meets -/
structure ChF (RW : List D) (c way at_ sp at1 c180 : Int) (w sg : Str) where
  RN : Int
  WN : Int
  ln : lenD (.lst RW) = .ok (.int RN)
  q0 : ¬ RN = 0
  m9 : modD (.int c) (.int 9) = .ok (.int way)
  c9 : Int
  d9 : divD (.int c) (.int 9) = .ok (.int c9)
  mL : modD (.int c9) (.int RN) = .ok (.int at_)
  d180 : divD (.int c) (.int 180) = .ok (.int c180)
  ix : ixD (.lst RW) (.int at_) = .ok (.str w)
  c20 : Int
  d20 : divD (.int c180) (.int 20) = .ok (.int c20)
  lw : lenD (.str w) = .ok (.int WN)
  WN1 : Int
  ad1 : addD (.int WN) (.int 1) = .ok (.int WN1)
  ml : modD (.int c20) (.int WN1) = .ok (.int sp)
  cm20 : Int
  m20 : modD (.int c180) (.int 20) = .ok (.int cm20)
  ixs : ixD (.str "0123456789x,- x-, 1x") (.int cm20) = .ok (.str sg)
  adA : addD (.int at_) (.int 1) = .ok (.int at1)
section
variable {RW LA LB LC LF LG LAB LAW LFR WL WD : List D} {c at_ sp at1 c180 v2 sp1 at2 : Int} {w sg v C1 C2 C3 R1 R2 R3 R4 t6 R7 R8 fw : Str}
abbrev chE (RW : List D) (c : Int) : Env := [.sh (.lst RW), .sh (.int c), .un, .un, .un, .un, .un, .un]
theorem chg0 (f : ChF RW c 0 at_ sp at1 c180 w sg) (eA : sliceD (.lst RW) none (some at_) = .ok (.lst LA)) (eB : sliceD (.lst RW) (some at1) none = .ok (.lst LB)) (z : addD (.lst LA) (.lst LB) = .ok (.lst LAB)) : e_q_changed (chE RW c) = .rt (.lst LAB) := by
  obtain ⟨RN, WN, ln, q0, m9, c9, d9, mL, d180, ix, c20, d20, lw, WN1, ad1, ml, cm20, m20, ixs, adA⟩ := f
  simp [e_q_changed, ln, q0, m9, d9, mL, d180, ix, d20, lw, ad1, ml, m20, ixs, adA, eA, eB, z, -addD_int, -ixD_lst, -lenD_lst]
theorem chg1 (f : ChF RW c 1 at_ sp at1 c180 w sg) (eA : sliceD (.lst RW) none (some at_) = .ok (.lst LA)) (eC : sliceD (.lst RW) (some at_) none = .ok (.lst LC)) (l1 : 1 ≤ lim) (z1 : addD (.lst LA) (.lst [.str w]) = .ok (.lst LAW)) (z2 : addD (.lst LAW) (.lst LC) = .ok (.lst LAB)) : e_q_changed (chE RW c) = .rt (.lst LAB) := by
  obtain ⟨RN, WN, ln, q0, m9, c9, d9, mL, d180, ix, c20, d20, lw, WN1, ad1, ml, cm20, m20, ixs, adA⟩ := f
  simp [e_q_changed, ln, q0, m9, d9, mL, d180, ix, d20, lw, ad1, ml, m20, ixs, adA, eA, eC, lstD, l1, z1, z2, -addD_int, -ixD_lst, -lenD_lst]
theorem chg2 (f : ChF RW c 2 at_ sp at1 c180 w sg) (l1 : 1 ≤ lim) (l2 : 2 ≤ lim) (m2 : modD (.int c180) (.int 2) = .ok (.int v2)) (v1 : ixD (.lst [.str w, .str ""]) (.int v2) = .ok (.str v)) (z1 : addD (.lst RW) (.lst [.str v]) = .ok (.lst LAB)) : e_q_changed (chE RW c) = .rt (.lst LAB) := by
  obtain ⟨RN, WN, ln, q0, m9, c9, d9, mL, d180, ix, c20, d20, lw, WN1, ad1, ml, cm20, m20, ixs, adA⟩ := f
  simp [e_q_changed, ln, q0, m9, d9, mL, d180, ix, d20, lw, ad1, ml, m20, ixs, adA, lstD, l1, l2, m2, v1, z1, -addD_int, -ixD_lst, -lenD_lst]
theorem chg3 (f : ChF RW c 3 at_ sp at1 c180 w sg) (eA : sliceD (.lst RW) none (some at_) = .ok (.lst LA)) (adB : addD (.int at_) (.int 2) = .ok (.int at2)) (eF : sliceD (.lst RW) (some at_) (some at2) = .ok (.lst LF)) (eG : sliceD (.lst RW) (some at2) none = .ok (.lst LG)) (rv : revD (.lst LF) = .ok (.lst LFR)) (z1 : addD (.lst LA) (.lst LFR) = .ok (.lst LAW)) (z2 : addD (.lst LAW) (.lst LG) = .ok (.lst LAB)) : e_q_changed (chE RW c) = .rt (.lst LAB) := by
  obtain ⟨RN, WN, ln, q0, m9, c9, d9, mL, d180, ix, c20, d20, lw, WN1, ad1, ml, cm20, m20, ixs, adA⟩ := f
  simp [e_q_changed, ln, q0, m9, d9, mL, d180, ix, d20, lw, ad1, ml, m20, ixs, adA, eA, adB, eF, eG, rv, z1, z2, -addD_int, -ixD_lst, -lenD_lst]
theorem chg4 (f : ChF RW c 4 at_ sp at1 c180 w sg) (eA : sliceD (.lst RW) none (some at_) = .ok (.lst LA)) (eB : sliceD (.lst RW) (some at1) none = .ok (.lst LB)) (l1 : 1 ≤ lim) (k1 : sliceD (.str w) none (some sp) = .ok (.str C1)) (j1 : addD (.str C1) (.str sg) = .ok (.str R4)) (k4 : sliceD (.str w) (some sp) none = .ok (.str C2)) (j4 : addD (.str R4) (.str C2) = .ok (.str R1)) (adS : addD (.int sp) (.int 1) = .ok (.int sp1)) (k7 : sliceD (.str w) (some sp1) none = .ok (.str C3)) (j10 : addD (.str C1) (.str C3) = .ok (.str R3)) (z1 : addD (.lst LA) (.lst [.str R3]) = .ok (.lst LAW)) (z2 : addD (.lst LAW) (.lst LB) = .ok (.lst LAB)) : e_q_changed (chE RW c) = .rt (.lst LAB) := by
  obtain ⟨RN, WN, ln, q0, m9, c9, d9, mL, d180, ix, c20, d20, lw, WN1, ad1, ml, cm20, m20, ixs, adA⟩ := f
  simp [e_q_changed, ln, q0, m9, d9, mL, d180, ix, d20, lw, ad1, ml, m20, ixs, adA, eA, eB, lstD, l1, k1, j1, k4, j4, adS, k7, j10, z1, z2, -addD_int, -ixD_lst, -lenD_lst]
theorem chg5 (f : ChF RW c 5 at_ sp at1 c180 w sg) (eA : sliceD (.lst RW) none (some at_) = .ok (.lst LA)) (eB : sliceD (.lst RW) (some at1) none = .ok (.lst LB)) (l1 : 1 ≤ lim) (k1 : sliceD (.str w) none (some sp) = .ok (.str C1)) (j1 : addD (.str C1) (.str sg) = .ok (.str R4)) (k4 : sliceD (.str w) (some sp) none = .ok (.str C2)) (j4 : addD (.str R4) (.str C2) = .ok (.str R1)) (adS : addD (.int sp) (.int 1) = .ok (.int sp1)) (k7 : sliceD (.str w) (some sp1) none = .ok (.str C3)) (j7 : addD (.str R4) (.str C3) = .ok (.str R2)) (z1 : addD (.lst LA) (.lst [.str R2]) = .ok (.lst LAW)) (z2 : addD (.lst LAW) (.lst LB) = .ok (.lst LAB)) : e_q_changed (chE RW c) = .rt (.lst LAB) := by
  obtain ⟨RN, WN, ln, q0, m9, c9, d9, mL, d180, ix, c20, d20, lw, WN1, ad1, ml, cm20, m20, ixs, adA⟩ := f
  simp [e_q_changed, ln, q0, m9, d9, mL, d180, ix, d20, lw, ad1, ml, m20, ixs, adA, eA, eB, lstD, l1, k1, j1, k4, j4, adS, k7, j7, z1, z2, -addD_int, -ixD_lst, -lenD_lst]
theorem chg6 (f : ChF RW c 6 at_ sp at1 c180 w sg) (eA : sliceD (.lst RW) none (some at_) = .ok (.lst LA)) (eB : sliceD (.lst RW) (some at1) none = .ok (.lst LB)) (l1 : 1 ≤ lim) (k1 : sliceD (.str w) none (some sp) = .ok (.str C1)) (j1 : addD (.str C1) (.str sg) = .ok (.str R4)) (k4 : sliceD (.str w) (some sp) none = .ok (.str C2)) (j4 : addD (.str R4) (.str C2) = .ok (.str R1)) (spl : splitD (.str w) (.str " ") = .ok (.lst WL)) (s6 : sliceD (.lst WL) (some 1) none = .ok (.lst WD)) (q6 : joinD (.str " ") (.lst WD) = .ok (.str t6)) (z1 : addD (.lst LA) (.lst [.str t6]) = .ok (.lst LAW)) (z2 : addD (.lst LAW) (.lst LB) = .ok (.lst LAB)) : e_q_changed (chE RW c) = .rt (.lst LAB) := by
  obtain ⟨RN, WN, ln, q0, m9, c9, d9, mL, d180, ix, c20, d20, lw, WN1, ad1, ml, cm20, m20, ixs, adA⟩ := f
  simp [e_q_changed, ln, q0, m9, d9, mL, d180, ix, d20, lw, ad1, ml, m20, ixs, adA, eA, eB, lstD, l1, k1, j1, k4, j4, spl, s6, q6, isTxt, z1, z2, -addD_int, -ixD_lst, -lenD_lst]
theorem chg7 (f : ChF RW c 7 at_ sp at1 c180 w sg) (eA : sliceD (.lst RW) none (some at_) = .ok (.lst LA)) (eB : sliceD (.lst RW) (some at1) none = .ok (.lst LB)) (l1 : 1 ≤ lim) (k1 : sliceD (.str w) none (some sp) = .ok (.str C1)) (j1 : addD (.str C1) (.str sg) = .ok (.str R4)) (k4 : sliceD (.str w) (some sp) none = .ok (.str C2)) (j4 : addD (.str R4) (.str C2) = .ok (.str R1)) (spl : splitD (.str w) (.str " ") = .ok (.lst WL)) (x7 : ixD (.lst WL) (.int 0) = .ok (.str fw)) (p1 : addD (.str w) (.str " ") = .ok (.str R8)) (p4 : addD (.str R8) (.str fw) = .ok (.str R7)) (z1 : addD (.lst LA) (.lst [.str R7]) = .ok (.lst LAW)) (z2 : addD (.lst LAW) (.lst LB) = .ok (.lst LAB)) : e_q_changed (chE RW c) = .rt (.lst LAB) := by
  obtain ⟨RN, WN, ln, q0, m9, c9, d9, mL, d180, ix, c20, d20, lw, WN1, ad1, ml, cm20, m20, ixs, adA⟩ := f
  simp [e_q_changed, ln, q0, m9, d9, mL, d180, ix, d20, lw, ad1, ml, m20, ixs, adA, eA, eB, lstD, l1, k1, j1, k4, j4, spl, isTxt, x7, p1, p4, z1, z2, -addD_int, -ixD_lst, -lenD_lst]
theorem chg8 (f : ChF RW c 8 at_ sp at1 c180 w sg) (eA : sliceD (.lst RW) none (some at_) = .ok (.lst LA)) (eB : sliceD (.lst RW) (some at1) none = .ok (.lst LB)) (l1 : 1 ≤ lim) (k1 : sliceD (.str w) none (some sp) = .ok (.str C1)) (j1 : addD (.str C1) (.str sg) = .ok (.str R4)) (k4 : sliceD (.str w) (some sp) none = .ok (.str C2)) (j4 : addD (.str R4) (.str C2) = .ok (.str R1)) (z1 : addD (.lst LA) (.lst [.str R1]) = .ok (.lst LAW)) (z2 : addD (.lst LAW) (.lst LB) = .ok (.lst LAB)) : e_q_changed (chE RW c) = .rt (.lst LAB) := by
  obtain ⟨RN, WN, ln, q0, m9, c9, d9, mL, d180, ix, c20, d20, lw, WN1, ad1, ml, cm20, m20, ixs, adA⟩ := f
  simp [e_q_changed, ln, q0, m9, d9, mL, d180, ix, d20, lw, ad1, ml, m20, ixs, adA, eA, eB, lstD, l1, k1, j1, k4, j4, z1, z2, -addD_int, -ixD_lst, -lenD_lst]
end
theorem q_changed_ok {n m : Nat} {rows : List Str} (h : RwOk n m rows) (hn : n ≤ 200) (hm : m ≤ 400) (c : Int) : ∃ rows', RwOk (3 * n + 2) (2 * m + 1) rows' ∧ d_q_changed [.lst (rows.map D.str), .int c] = .ok (.lst (rows'.map D.str)) := by
  by_cases hL : rows.length = 0
  · have e : rows = [] := List.eq_nil_of_length_eq_zero hL
    subst e
    refine ⟨[], ⟨by simp, by simp⟩, ?_⟩
    have g : e_q_changed [.sh (.lst []), .sh (.int c), .un, .un, .un, .un, .un, .un] = .rt (.lst []) := by simp [e_q_changed]
    exact runD_rt rfl g
  have hlen := h.len
  have hS := h.okS (by omega)
  have m9 := modD_ok (i := c) (j := 9) (by omega)
  have d9 := divD_ok (i := c) (j := 9) (by omega) (bits_le (by omega))
  have mL := modD_ok (i := c / 9) (j := (rows.length : Nat)) (by omega)
  have d180 := divD_ok (i := c) (j := 180) (by omega) (bits_le (by omega))
  have d20 := divD_ok (i := c / 180) (j := 20) (by omega) (bits_le (by omega))
  have m20 := modD_ok (i := c / 180) (j := 20) (by omega)
  have m2 := modD_ok (i := c / 180) (j := 2) (by omega)
  have a0 := Int.emod_nonneg (c / 9) (b := (rows.length : Nat)) (by omega)
  have a1 := Int.emod_lt_of_pos (c / 9) (b := (rows.length : Nat)) (by omega)
  have ln : lenD (.lst (rows.map D.str)) = .ok (.int (rows.length : Nat)) := by rw [lenD_lst, List.length_map]
  have q0 : ¬ ((rows.length : Nat) : Int) = 0 := by omega
  generalize hat : c / 9 % ((rows.length : Nat) : Int) = at_ at *
  obtain ⟨w, hw, ix⟩ : ∃ w ∈ rows, ixD (.lst (rows.map D.str)) (.int at_) = .ok (.str w) := by
    have hlt : at_.toNat < rows.length := by omega
    refine ⟨rows[at_.toNat], List.getElem_mem hlt, ?_⟩
    rw [ixD_lst, atI_int _ _ a0 (by rw [List.length_map]; omega), List.getElem?_map, List.getElem?_eq_getElem hlt]
    rfl
  have hwS := hS w hw
  have hwm := (h.ok w hw).1
  have hwc := (h.ok w hw).2
  have lw := len_str hwS
  have ml := modD_ok (i := c / 180 / 20) (j := ((tl w).length : Nat) + 1) (by omega)
  have ad1 : addD (.int ((tl w).length : Nat)) (.int 1) = .ok (.int (((tl w).length : Nat) + 1)) := rfl
  have r0 := Int.emod_nonneg (c / 180) (b := 20) (by omega)
  have r1 := Int.emod_lt_of_pos (c / 180) (b := 20) (by omega)
  obtain ⟨sg, hsg, ixs⟩ : ∃ sg : Nat, sg < 256 ∧ ixD (.str "0123456789x,- x-, 1x") (.int (c / 180 % 20)) = .ok (.str ⟨#[sg]⟩) := by
    have e : atI (tl ("0123456789x,- x-, 1x" : Str)) (c / 180 % 20) = (tl ("0123456789x,- x-, 1x" : Str))[(c / 180 % 20).toNat]? := atI_int _ _ r0 (by rw [signs13]; simp; omega)
    have hlt : (c / 180 % 20).toNat < (tl ("0123456789x,- x-, 1x" : Str)).length := by rw [signs13]; simp; omega
    refine ⟨(tl ("0123456789x,- x-, 1x" : Str))[(c / 180 % 20).toNat], ?_, ?_⟩
    · have : ∀ z ∈ tl ("0123456789x,- x-, 1x" : Str), z < 256 := by rw [signs13]; decide
      exact this _ (List.getElem_mem hlt)
    · show (if (("0123456789x,- x-, 1x" : Str)).length ≤ lim then (match atI (tl ("0123456789x,- x-, 1x" : Str)) (c / 180 % 20) with | some c => Res.ok (D.str ⟨#[c]⟩) | none => .bad) else .bad) = _
      rw [if_pos (by decide +kernel), e, List.getElem?_eq_getElem hlt]
  have sok := sign_ok hsg
  have sl : (tl (⟨#[sg]⟩ : Str)).length = 1 := rfl
  generalize hsp : c / 180 / 20 % (((tl w).length : Nat) + 1) = sp at *
  have adA : addD (.int at_) (.int 1) = .ok (.int (at_ + 1)) := rfl
  have adB : addD (.int at_) (.int 2) = .ok (.int (at_ + 2)) := rfl
  have adS : addD (.int sp) (.int 1) = .ok (.int (sp + 1)) := rfl
  obtain ⟨A, eA, lA, sA⟩ := cut_rw (rows := rows) none (some at_)
  obtain ⟨B, eB, lB, sB⟩ := cut_rw (rows := rows) (some (at_ + 1)) none
  obtain ⟨C, eC, lC, sC⟩ := cut_rw (rows := rows) (some at_) none
  obtain ⟨F, eF, lF, sF⟩ := cut_rw (rows := rows) (some at_) (some (at_ + 2))
  obtain ⟨G, eG, lG, sG⟩ := cut_rw (rows := rows) (some (at_ + 2)) none
  obtain ⟨k1, k2, k3⟩ := cut_okS hwS none (some sp)
  obtain ⟨k4, k5, k6⟩ := cut_okS hwS (some sp) none
  obtain ⟨k7, k8, k9⟩ := cut_okS hwS (some (sp + 1)) none
  obtain ⟨j1, j2, j3⟩ := add_tx (a := cutS w none (some sp)) (b := ⟨#[sg]⟩) (by omega) k3 sok.c
  obtain ⟨j4, j5, j6⟩ := add_tx (a := cutS w none (some sp) ++ ⟨#[sg]⟩) (b := cutS w (some sp) none) (by omega) j3 k6
  obtain ⟨j7, j8, j9⟩ := add_tx (a := cutS w none (some sp) ++ ⟨#[sg]⟩) (b := cutS w (some (sp + 1)) none) (by omega) j3 k9
  obtain ⟨j10, j11, j12⟩ := add_tx (a := cutS w none (some sp)) (b := cutS w (some (sp + 1)) none) (by omega) k3 k9
  obtain ⟨spl, _⟩ := wordsB hwS
  obtain ⟨t6, s6, q6, l6, c6⟩ := less_ok hwS
  obtain ⟨fw, x7, l7, c7⟩ := fst_word hwS
  have bl : (tl (" " : Str)).length = 1 := by decide +kernel
  obtain ⟨p1, p2, p3⟩ := add_tx (a := w) (b := " ") (by omega) hwc (by decide +kernel)
  obtain ⟨p4, p5, p6⟩ := add_tx (a := w ++ " ") (b := fw) (by omega) p3 c7
  have l1 : 1 ≤ lim := by decide
  have l2 : 2 ≤ lim := by decide
  have wk : ∀ {r : List Str}, (∀ z ∈ r, z ∈ rows) → ∀ z ∈ r, (tl z).length ≤ 2 * m + 1 ∧ ∀ c ∈ tl z, c < 256 := fun hs z hz => by
    obtain ⟨x1, x2⟩ := h.sub hs z hz
    exact ⟨by omega, x2⟩
  have fin : ∀ t : Str, (tl t).length ≤ 2 * m + 1 → (∀ c ∈ tl t, c < 256) → RwOk (3 * n + 2) (2 * m + 1) (A ++ [t] ++ B) ∧ addD (.lst (A.map D.str)) (.lst [.str t]) = .ok (.lst ((A ++ [t]).map D.str)) ∧ addD (.lst ((A ++ [t]).map D.str)) (.lst (B.map D.str)) = .ok (.lst ((A ++ [t] ++ B).map D.str)) := fun t h1 h2 => by
    refine ⟨⟨by rw [List.length_append, List.length_append, List.length_singleton]; omega, fun z hz => ?_⟩, add_rw (a := A) (b := [t]) (by rw [List.length_singleton]; omega), add_rw (by rw [List.length_append, List.length_singleton]; omega)⟩
    rcases List.mem_append.mp hz with hz | hz
    · rcases List.mem_append.mp hz with hz | hz
      · exact wk sA z hz
      · rw [List.mem_singleton.mp hz]; exact ⟨h1, h2⟩
    · exact wk sB z hz
  have w0 := Int.emod_nonneg c (b := 9) (by omega)
  have w1 := Int.emod_lt_of_pos c (b := 9) (by omega)
  have hway : c % 9 = 0 ∨ c % 9 = 1 ∨ c % 9 = 2 ∨ c % 9 = 3 ∨ c % 9 = 4 ∨ c % 9 = 5 ∨ c % 9 = 6 ∨ c % 9 = 7 ∨ c % 9 = 8 := by omega
  have f : ∀ way, c % 9 = way → ChF (rows.map D.str) c way at_ sp (at_ + 1) (c / 180) w ⟨#[sg]⟩ := fun way e => ⟨_, _, ln, q0, by rw [m9, e], _, d9, mL, d180, ix, _, d20, lw, _, ad1, ml, _, m20, ixs, adA⟩
  rcases hway with e | e | e | e | e | e | e | e | e
  · refine ⟨A ++ B, ⟨by rw [List.length_append]; omega, fun z hz => ?_⟩, runD_rt rfl (chg0 (f 0 e) eA eB (add_rw (a := A) (b := B) (by omega)))⟩
    rcases List.mem_append.mp hz with hz | hz
    · exact wk sA z hz
    · exact wk sB z hz
  · refine ⟨A ++ [w] ++ C, ⟨by rw [List.length_append, List.length_append, List.length_singleton]; omega, fun z hz => ?_⟩, runD_rt rfl (chg1 (f 1 e) eA eC l1 (add_rw (a := A) (b := [w]) (by rw [List.length_singleton]; omega)) (add_rw (a := A ++ [w]) (b := C) (by rw [List.length_append, List.length_singleton]; omega)))⟩
    rcases List.mem_append.mp hz with hz | hz
    · rcases List.mem_append.mp hz with hz | hz
      · exact wk sA z hz
      · rw [List.mem_singleton.mp hz]; exact ⟨by omega, hwc⟩
    · exact wk sC z hz
  · obtain ⟨v, v1, v2, v3⟩ : ∃ v : Str, ixD (.lst [.str w, .str ""]) (.int (c / 180 % 2)) = .ok (.str v) ∧ (tl v).length ≤ 2 * m + 1 ∧ ∀ c ∈ tl v, c < 256 := by
      have h0 := Int.emod_nonneg (c / 180) (b := 2) (by omega)
      have h1 := Int.emod_lt_of_pos (c / 180) (b := 2) (by omega)
      have : c / 180 % 2 = 0 ∨ c / 180 % 2 = 1 := by omega
      rcases this with e | e <;> rw [e]
      · exact ⟨w, rfl, by omega, hwc⟩
      · exact ⟨"", rfl, by rw [← tl_len]; exact Nat.zero_le _, by decide +kernel⟩
    refine ⟨rows ++ [v], ⟨by rw [List.length_append, List.length_singleton]; omega, fun z hz => ?_⟩, runD_rt rfl (chg2 (f 2 e) l1 l2 m2 v1 (add_rw (a := rows) (b := [v]) (by rw [List.length_singleton]; omega)))⟩
    rcases List.mem_append.mp hz with hz | hz
    · exact wk (fun z h => h) z hz
    · rw [List.mem_singleton.mp hz]; exact ⟨v2, v3⟩
  · have rv : revD (.lst (F.map D.str)) = .ok (.lst (F.reverse.map D.str)) := by
      show Res.ok (D.lst (F.map D.str).reverse) = _
      rw [List.map_reverse]
    refine ⟨A ++ F.reverse ++ G, ⟨by rw [List.length_append, List.length_append, List.length_reverse]; omega, fun z hz => ?_⟩, runD_rt rfl (chg3 (f 3 e) eA adB eF eG rv (add_rw (a := A) (b := F.reverse) (by rw [List.length_reverse]; omega)) (add_rw (a := A ++ F.reverse) (b := G) (by rw [List.length_append, List.length_reverse]; omega)))⟩
    rcases List.mem_append.mp hz with hz | hz
    · rcases List.mem_append.mp hz with hz | hz
      · exact wk sA z hz
      · exact wk sF z (List.mem_reverse.mp hz)
    · exact wk sG z hz
  · obtain ⟨z0, z1, z2⟩ := fin _ (by omega) j12
    exact ⟨_, z0, runD_rt rfl (chg4 (f 4 e) eA eB l1 k1 j1 k4 j4 adS k7 j10 z1 z2)⟩
  · obtain ⟨z0, z1, z2⟩ := fin _ (by omega) j9
    exact ⟨_, z0, runD_rt rfl (chg5 (f 5 e) eA eB l1 k1 j1 k4 j4 adS k7 j7 z1 z2)⟩
  · obtain ⟨z0, z1, z2⟩ := fin _ (Nat.le_trans l6 (by omega)) c6
    exact ⟨_, z0, runD_rt rfl (chg6 (f 6 e) eA eB l1 k1 j1 k4 j4 spl s6 q6 z1 z2)⟩
  · obtain ⟨z0, z1, z2⟩ := fin _ (by omega) p6
    exact ⟨_, z0, runD_rt rfl (chg7 (f 7 e) eA eB l1 k1 j1 k4 j4 spl x7 p1 p4 z1 z2)⟩
  · obtain ⟨z0, z1, z2⟩ := fin _ (by omega) j6
    exact ⟨_, z0, runD_rt rfl (chg8 (f 8 e) eA eB l1 k1 j1 k4 j4 z1 z2)⟩
theorem law_ok (ns : List Int) (hl : ns.length ≤ 63) : d_law [.scr ns] = .ok (.bl true) := by
  obtain ⟨rows0, ok0, et⟩ := q_texts_ok ns
  have ec3 := cell_ok ns 3 (by omega) (by omega)
  have m30 := modD_ok (i := cellV ns 3) (j := 30) (by omega)
  have d30 := divD_ok (i := cellV ns 3) (j := 30) (by omega) (bits_le (by omega))
  have m3 := modD_ok (i := cellV ns 3 / 30) (j := 3) (by omega)
  have b0 := Int.emod_nonneg (cellV ns 3 / 30) (b := 3) (by omega)
  have b1 := Int.emod_lt_of_pos (cellV ns 3 / 30) (b := 3) (by omega)
  obtain ⟨rows, ok0, e3⟩ : ∃ rows', RwOk 13 168 rows' ∧ law_s3 [.sh (.scr ns), .sh (.lst (rows0.map D.str)), .sh (.int (cellV ns 3)), .un, .un] = .nx [.sh (.scr ns), .sh (.lst (rows'.map D.str)), .sh (.int (cellV ns 3)), .un, .un] := by
    by_cases h7 : cellV ns 3 % 30 = 7
    · have q7 : eqD (.int (cellV ns 3 % 30)) (.int 7) = .ok (.bl true) := by rw [eqD_int, decide_eq_true h7]
      refine ⟨[], ⟨by simp, by simp⟩, ?_⟩
      show _ = Oc.nx [.sh (.scr ns), .sh (.lst []), .sh (.int (cellV ns 3)), .un, .un]
      generalize rows0.map D.str = RW at *
      generalize cellV ns 3 % 30 = C30 at *
      generalize cellV ns 3 = C3 at *
      simp [law_s3, law_s3_1, m30, q7, lstD, -eqD_int]
    · have q7 : eqD (.int (cellV ns 3 % 30)) (.int 7) = .ok (.bl false) := by rw [eqD_int, decide_eq_false h7]
      refine ⟨rows0, ok0, ?_⟩
      generalize rows0.map D.str = RW at *
      generalize cellV ns 3 % 30 = C30 at *
      generalize cellV ns 3 = C3 at *
      simp [law_s3, m30, q7, -eqD_int]
  have turn : ∀ {n m : Nat} {rows : List Str} {k : Int} (s3 s4 : Slot), RwOk n m rows → n ≤ 200 → m ≤ 400 → 0 ≤ k → k ≤ 10 → ∃ rows', RwOk (3 * n + 2) (2 * m + 1) rows' ∧ law_l1 (.int k) [.sh (.scr ns), .sh (.lst (rows.map D.str)), .sh (.int (cellV ns 3)), s3, s4] = .nx [.sh (.scr ns), .sh (.lst (rows'.map D.str)), .sh (.int (cellV ns 3)), .sh (.int k), s4] := fun {n m rows k} s3 s4 h h1 h2 k0 k1 => by
    obtain ⟨rows', h', e⟩ := q_changed_ok h h1 h2 (cellV ns (4 + k))
    have ec := cell_ok ns (4 + k) (by omega) (by omega)
    have ad : addD (.int 4) (.int k) = .ok (.int (4 + k)) := rfl
    refine ⟨rows', h', ?_⟩
    generalize rows.map D.str = RW at *
    generalize rows'.map D.str = RW2 at *
    generalize cellV ns (4 + k) = C4 at *
    generalize 4 + k = K4 at *
    generalize cellV ns 3 = C3 at *
    simp [law_l1, law_s4_1, nameG, ad, ec, e, -addD_int]
  obtain ⟨rows2, n2, m2, ok2, hn2, hm2, e4⟩ : ∃ (rows' : List Str) (n m : Nat), RwOk n m rows' ∧ n ≤ 1000 ∧ m ≤ 1000 ∧ ∃ s3, law_s4 [.sh (.scr ns), .sh (.lst (rows.map D.str)), .sh (.int (cellV ns 3)), .un, .un] = .nx [.sh (.scr ns), .sh (.lst (rows'.map D.str)), .sh (.int (cellV ns 3)), s3, .un] := by
    have hc : cellV ns 3 / 30 % 3 = 0 ∨ cellV ns 3 / 30 % 3 = 1 ∨ cellV ns 3 / 30 % 3 = 2 := by omega
    rcases hc with e | e | e <;> rw [e] at m3
    · refine ⟨rows, 13, 168, ok0, by omega, by omega, .un, ?_⟩
      have rg : rng1 [.int 0] = .ok [] := rfl
      generalize rows.map D.str = RW at *
      generalize cellV ns 3 / 30 = C30 at *
      generalize cellV ns 3 = C3 at *
      simp [law_s4, d30, m3, rg]
    · obtain ⟨r1, o1, e1⟩ := turn (k := 0) .un .un ok0 (by omega) (by omega) (by omega) (by omega)
      refine ⟨r1, _, _, o1, by omega, by omega, .sh (.int 0), ?_⟩
      have rg : rng1 [.int 1] = .ok [.int 0] := rfl
      generalize rows.map D.str = RW at *
      generalize r1.map D.str = RW1 at *
      generalize cellV ns 3 / 30 = C30 at *
      generalize cellV ns 3 = C3 at *
      simp [law_s4, d30, m3, rg, forD_cons, e1]
    · obtain ⟨r1, o1, e1⟩ := turn (k := 0) .un .un ok0 (by omega) (by omega) (by omega) (by omega)
      obtain ⟨r2, o2, e2⟩ := turn (k := 1) (.sh (.int 0)) .un o1 (by omega) (by omega) (by omega) (by omega)
      refine ⟨r2, _, _, o2, by omega, by omega, .sh (.int 1), ?_⟩
      have rg : rng1 [.int 2] = .ok [.int 0, .int 1] := rfl
      generalize rows.map D.str = RW at *
      generalize r1.map D.str = RW1 at *
      generalize r2.map D.str = RW2 at *
      generalize cellV ns 3 / 30 = C30 at *
      generalize cellV ns 3 = C3 at *
      simp [law_s4, d30, m3, rg, forD_cons, e1, e2]
  obtain ⟨s3, e4⟩ := e4
  have hrows := ok2.okS hm2
  have hlen : rows2.length ≤ 1000 := by have := ok2.len; omega
  have td := told_ok hrows hlen
  have du := due_ok hrows hlen
  have sm := same13 hrows hlen
  have rs := rows_same hrows
  have li : listD (.lst (rows2.map D.str)) = .ok (.lst (rows2.map D.str)) := rfl
  refine runD_rt rfl ?_
  simp only [startD, N_law, List.length_cons, List.length_nil, List.map_cons, List.map_nil, Nat.reduceAdd, Nat.reduceSub, Nat.zero_add, List.replicate, List.cons_append, List.nil_append]
  simp only [e_law]
  generalize rows0.map D.str = RW0 at *
  generalize rows.map D.str = RW at *
  generalize rows2.map D.str = RW2 at *
  generalize toldD (rtO rows2) = TD at *
  generalize cellV ns 3 = C3 at *
  refine seq_nx (r1 := [.sh (.scr ns), .sh (.lst RW0), .un, .un, .un]) (by simp [law_s1, et]) ?_
  refine seq_nx (r1 := [.sh (.scr ns), .sh (.lst RW0), .sh (.int C3), .un, .un]) (by simp [law_s2, ec3]) ?_
  refine seq_nx (r1 := [.sh (.scr ns), .sh (.lst RW), .sh (.int C3), .un, .un]) e3 ?_
  refine seq_nx (r1 := [.sh (.scr ns), .sh (.lst RW2), .sh (.int C3), s3, .un]) e4 ?_
  refine seq_nx (r1 := [.sh (.scr ns), .sh (.lst RW2), .sh (.int C3), s3, .sh (.lst RW2)]) (by simp [law_s5, li, -listD]) ?_
  simp [law_s6, td, du, sm, rs, -eqD_ok]
end Mir.K13
open PySem PySem.W PyProof.Rows
theorem PySem.Challenge.cw_carrytower_k13_table_texts_refused_holds : PySem.Challenge.rw_carrytower_k13_table_texts_refused.Holds := by
  w_on; o_law; k_head; (case hw => w_witness2)
  k_fill
  refine Mir.walk_mir (l := PySem.Challenge.rw_carrytower_k13_table_texts_refused) (k := 9) (x := "_law_script") (g := Mir.K13.d_law) rfl rfl ⟨rfl, by decide, by decide⟩ (fun w h Y => by first | exact PySem.W.kIn_of Y | exact PySem.W.km_in_of Y) Mir.K13.law_ok ?F
  case F =>
    intro w mg fa h KX G hmg
    refine' Mir.K13.all_mk KX G hmg ?aC_CarryError ?aC_NoRounds ?aC_NoElement ?aC_NoLower ?aC_NoUpper ?aC_NoText ?aC_NoCarry ?aC_Group ?aC_Rounds ?aC_Table ?a_q_rounds ?l_q_rounds ?c_q_rounds ?k_q_rounds ?a_q_cell ?l_q_cell ?c_q_cell ?k_q_cell ?a_q_rounds_text ?l_q_rounds_text ?c_q_rounds_text ?k_q_rounds_text ?a_q_members ?l_q_members ?c_q_members ?k_q_members ?a_q_element ?l_q_element ?c_q_element ?k_q_element ?a_q_carries ?l_q_carries ?c_q_carries ?k_q_carries ?a_q_text ?l_q_text ?c_q_text ?k_q_text ?a_q_texts ?l_q_texts ?c_q_texts ?k_q_texts ?a_q_changed ?l_q_changed ?c_q_changed ?k_q_changed ?a_Table_carries ?l_Table_carries ?c_Table_carries ?k_Table_carries ?i_Table_carries ?a_NoText_init ?l_NoText_init ?c_NoText_init ?k_NoText_init ?a_is_whole ?l_is_whole ?c_is_whole ?k_is_whole ?a_are_rounds ?l_are_rounds ?c_are_rounds ?k_are_rounds ?a_Rounds_init ?l_Rounds_init ?c_Rounds_init ?k_Rounds_init ?i_Rounds_init ?a_number_read ?l_number_read ?c_number_read ?k_number_read ?a_rounds_or_none ?l_rounds_or_none ?c_rounds_or_none ?k_rounds_or_none ?a_groups_read ?l_groups_read ?c_groups_read ?k_groups_read ?a_Rounds_members ?l_Rounds_members ?c_Rounds_members ?k_Rounds_members ?i_Rounds_members ?a_Group_size ?l_Group_size ?c_Group_size ?k_Group_size ?i_Group_size ?a_Rounds_is_even ?l_Rounds_is_even ?c_Rounds_is_even ?k_Rounds_is_even ?i_Rounds_is_even ?a_look_at_groups ?l_look_at_groups ?c_look_at_groups ?k_look_at_groups ?a_Rounds_has ?l_Rounds_has ?c_Rounds_has ?k_Rounds_has ?i_Rounds_has ?a_element_or_none ?l_element_or_none ?c_element_or_none ?k_element_or_none ?a_row_read ?l_row_read ?c_row_read ?k_row_read ?a_NoCarry_init ?l_NoCarry_init ?c_NoCarry_init ?k_NoCarry_init ?a_Table_init ?l_Table_init ?c_Table_init ?k_Table_init ?i_Table_init ?a_read_table ?l_read_table ?c_read_table ?k_read_table ?a_q_told ?l_q_told ?c_q_told ?k_q_told ?a_q_number_read ?l_q_number_read ?c_q_number_read ?k_q_number_read ?a_q_rounds_read ?l_q_rounds_read ?c_q_rounds_read ?k_q_rounds_read ?a_q_size ?l_q_size ?c_q_size ?k_q_size ?a_q_element_read ?l_q_element_read ?c_q_element_read ?k_q_element_read ?a_q_due ?l_q_due ?c_q_due ?k_q_due ?a_law ?l_law ?c_law ?k_law ?z_range ?z_min ?z_tuple ?z_len ?z_sum ?z_str ?z_enumerate ?z_list ?z_dict ?fl_kept ?xL_NoText ?rv_NoText ?ob_NoText ?tI_NoText ?no_NoText_at ?z_isinstance ?z_MOST_ROUNDS ?z_int ?z_bool ?z_MOST_ELEMENTS ?ob_NoRounds ?fl_rounds ?z_MOST_FIGURES ?z_FIGURES ?nq_Rounds ?z_MOST_LOWER ?ob_NoLower ?z_MOST_UPPER ?ob_NoUpper ?z_zip ?fl_lower ?fl_upper ?xL_NoCarry ?rv_NoCarry ?ob_NoCarry ?tI_NoCarry ?no_NoCarry_y ?no_NoCarry_x ?xl_at ?z_ValueError ?z_all ?hIs ?hCt ?mk_Rounds ?kc_Rounds ?mk_Table ?kc_Table ?am_Rounds_size ?oB
    (case aC_CarryError => k_is)
    (case aC_NoRounds => k_is)
    (case aC_NoElement => k_is)
    (case aC_NoLower => k_is)
    (case aC_NoUpper => k_is)
    (case aC_NoText => k_is)
    (case aC_NoCarry => k_is)
    (case aC_Group => k_is)
    (case aC_Rounds => k_is)
    (case aC_Table => k_is)
    (case a_q_rounds => k_is)
    (case l_q_rounds => k_is)
    (case c_q_rounds => k_is)
    (case k_q_rounds => k_is)
    (case a_q_cell => k_is)
    (case l_q_cell => k_is)
    (case c_q_cell => k_is)
    (case k_q_cell => k_is)
    (case a_q_rounds_text => k_is)
    (case l_q_rounds_text => k_is)
    (case c_q_rounds_text => k_is)
    (case k_q_rounds_text => k_is)
    (case a_q_members => k_is)
    (case l_q_members => k_is)
    (case c_q_members => k_is)
    (case k_q_members => k_is)
    (case a_q_element => k_is)
    (case l_q_element => k_is)
    (case c_q_element => k_is)
    (case k_q_element => k_is)
    (case a_q_carries => k_is)
    (case l_q_carries => k_is)
    (case c_q_carries => k_is)
    (case k_q_carries => k_is)
    (case a_q_text => k_is)
    (case l_q_text => k_is)
    (case c_q_text => k_is)
    (case k_q_text => k_is)
    (case a_q_texts => k_is)
    (case l_q_texts => k_is)
    (case c_q_texts => k_is)
    (case k_q_texts => k_is)
    (case a_q_changed => k_is)
    (case l_q_changed => k_is)
    (case c_q_changed => k_is)
    (case k_q_changed => k_is)
    (case a_Table_carries => k_is)
    (case l_Table_carries => k_is)
    (case c_Table_carries => k_is)
    (case k_Table_carries => k_is)
    (case i_Table_carries => k_is)
    (case a_NoText_init => k_is)
    (case l_NoText_init => k_is)
    (case c_NoText_init => k_is)
    (case k_NoText_init => k_is)
    (case a_is_whole => k_is)
    (case l_is_whole => k_is)
    (case c_is_whole => k_is)
    (case k_is_whole => k_is)
    (case a_are_rounds => k_is)
    (case l_are_rounds => k_is)
    (case c_are_rounds => k_is)
    (case k_are_rounds => k_is)
    (case a_Rounds_init => k_is)
    (case l_Rounds_init => k_is)
    (case c_Rounds_init => k_is)
    (case k_Rounds_init => k_is)
    (case i_Rounds_init => k_is)
    (case a_number_read => k_is)
    (case l_number_read => k_is)
    (case c_number_read => k_is)
    (case k_number_read => k_is)
    (case a_rounds_or_none => k_is)
    (case l_rounds_or_none => k_is)
    (case c_rounds_or_none => k_is)
    (case k_rounds_or_none => k_is)
    (case a_groups_read => k_is)
    (case l_groups_read => k_is)
    (case c_groups_read => k_is)
    (case k_groups_read => k_is)
    (case a_Rounds_members => k_is)
    (case l_Rounds_members => k_is)
    (case c_Rounds_members => k_is)
    (case k_Rounds_members => k_is)
    (case i_Rounds_members => k_is)
    (case a_Group_size => k_is)
    (case l_Group_size => k_is)
    (case c_Group_size => k_is)
    (case k_Group_size => k_is)
    (case i_Group_size => k_is)
    (case a_Rounds_is_even => k_is)
    (case l_Rounds_is_even => k_is)
    (case c_Rounds_is_even => k_is)
    (case k_Rounds_is_even => k_is)
    (case i_Rounds_is_even => k_is)
    (case a_look_at_groups => k_is)
    (case l_look_at_groups => k_is)
    (case c_look_at_groups => k_is)
    (case k_look_at_groups => k_is)
    (case a_Rounds_has => k_is)
    (case l_Rounds_has => k_is)
    (case c_Rounds_has => k_is)
    (case k_Rounds_has => k_is)
    (case i_Rounds_has => k_is)
    (case a_element_or_none => k_is)
    (case l_element_or_none => k_is)
    (case c_element_or_none => k_is)
    (case k_element_or_none => k_is)
    (case a_row_read => k_is)
    (case l_row_read => k_is)
    (case c_row_read => k_is)
    (case k_row_read => k_is)
    (case a_NoCarry_init => k_is)
    (case l_NoCarry_init => k_is)
    (case c_NoCarry_init => k_is)
    (case k_NoCarry_init => k_is)
    (case a_Table_init => k_is)
    (case l_Table_init => k_is)
    (case c_Table_init => k_is)
    (case k_Table_init => k_is)
    (case i_Table_init => k_is)
    (case a_read_table => k_is)
    (case l_read_table => k_is)
    (case c_read_table => k_is)
    (case k_read_table => k_is)
    (case a_q_told => k_is)
    (case l_q_told => k_is)
    (case c_q_told => k_is)
    (case k_q_told => k_is)
    (case a_q_number_read => k_is)
    (case l_q_number_read => k_is)
    (case c_q_number_read => k_is)
    (case k_q_number_read => k_is)
    (case a_q_rounds_read => k_is)
    (case l_q_rounds_read => k_is)
    (case c_q_rounds_read => k_is)
    (case k_q_rounds_read => k_is)
    (case a_q_size => k_is)
    (case l_q_size => k_is)
    (case c_q_size => k_is)
    (case k_q_size => k_is)
    (case a_q_element_read => k_is)
    (case l_q_element_read => k_is)
    (case c_q_element_read => k_is)
    (case k_q_element_read => k_is)
    (case a_q_due => k_is)
    (case l_q_due => k_is)
    (case c_q_due => k_is)
    (case k_q_due => k_is)
    (case a_law => k_is)
    (case l_law => k_is)
    (case c_law => k_is)
    (case k_law => k_is)
    (case z_range => k_is)
    (case z_min => k_is)
    (case z_tuple => k_is)
    (case z_len => k_is)
    (case z_sum => k_is)
    (case z_str => k_is)
    (case z_enumerate => k_is)
    (case z_list => k_is)
    (case z_dict => k_is)
    (case fl_kept => kernel_rfl)
    (case xL_NoText => k_is)
    (case rv_NoText => decide +kernel)
    (case ob_NoText => kernel_rfl)
    (case tI_NoText => k_is)
    (case no_NoText_at => k_is)
    (case z_isinstance => k_is)
    (case z_MOST_ROUNDS => k_is)
    (case z_int => k_is)
    (case z_bool => k_is)
    (case z_MOST_ELEMENTS => k_is)
    (case ob_NoRounds => kernel_rfl)
    (case fl_rounds => kernel_rfl)
    (case z_MOST_FIGURES => k_is)
    (case z_FIGURES => k_is)
    (case nq_Rounds => kernel_rfl)
    (case z_MOST_LOWER => k_is)
    (case ob_NoLower => kernel_rfl)
    (case z_MOST_UPPER => k_is)
    (case ob_NoUpper => kernel_rfl)
    (case z_zip => k_is)
    (case fl_lower => kernel_rfl)
    (case fl_upper => kernel_rfl)
    (case xL_NoCarry => k_is)
    (case rv_NoCarry => decide +kernel)
    (case ob_NoCarry => kernel_rfl)
    (case tI_NoCarry => k_is)
    (case no_NoCarry_y => k_is)
    (case no_NoCarry_x => k_is)
    (case xl_at => kernel_rfl)
    (case z_ValueError => k_is)
    (case z_all => k_is)
    (case hIs => kernel_rfl)
    (case hCt => kernel_rfl)
    (case mk_Rounds => k_is)
    (case kc_Rounds => k_is)
    (case mk_Table => k_is)
    (case kc_Table => k_is)
    (case am_Rounds_size => k_is)
    (case oB => kernel_rfl)
