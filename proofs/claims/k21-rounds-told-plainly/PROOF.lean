import PyProof.Rows.All
import Wide.All
import OpenK.AllK
import Wide.FinOn
import HandS.ForMost
import HandS.Lambda
import HandS.ForExc
import HandS.IsInst
import KE.KDictKeyed
import HandS.CallSlots
import HandS.ExcInit
import HandS.Small
import HandS.TupAny
import HandS.TupMul
import HandS.Wide
import HandS.Deep
import HandS.Style
import HandS.Conv
import HandS.ExcIs
import HandS.Walk
import KE.KExcIs
import HandS.TupLen
import HandS.ExcValue
import HandS.ExcField
import HandS.TryMany
import HandS.EndTab
import HandS.Zip
import KE.KDictOf
import KE.KEqDict
import PyProof.EnumMake
import PyProof.Draws
import KE.KDictDisplayH
import PyProof.DictDisplay
import HandS.SortOrd
import HandS.NamedTupSort
import KE.KDictSum
import KE.KDictCopyH
import KE.KDictZip
import HandS.Rev
import HandS.Nested
import KE.SortData
import KE.KEqNest
import HandS.TryOnly
import HandS.Sort
import PySem.Challenge.RW_carrytower_k21_rounds_told_plainly
set_option Elab.async false
set_option linter.all false
set_option maxRecDepth 100000
namespace Mir
open PySem PySem.Spec PyProof.Rows L2
/-- data -/
inductive D where
  | non | bl (b : Bool) | int (i : Int) | str (s : Str)
  | tup (xs : List D) | lst (xs : List D)
  | scr (ns : List Int)
  | dic (ks : List D) (vs : List D)
  | obj (c : Nat) (vs : List D)
  | exc (c : Nat) (vs : List D)
  | cls (c : Nat) | ty (n : String)
  deriving Inhabited
/-- the classes by numbers: their names, their attributes in order -/
def cname : Nat → Str
  | 0 => "Rounds" | 1 => "Tower" | 2 => "Table" | 3 => "Map" | 4 => "Desk" | 5 => "Group"
  | 10 => "CarryError" | 11 => "NoRounds" | 12 => "NoElement" | 13 => "NoLower" | 14 => "NoUpper" | 15 => "NoHead" | 16 => "NotLike" | 17 => "NoCount" | 18 => "NoPair"
  | 19 => "NoKind" | 20 => "NoLine" | 21 => "NothingDone" | 22 => "NoText" | 23 => "NoCarry" | 24 => "NoTower" | 25 => "Uneven" | 26 => "NoRelabeling" | 27 => "TooMany" | 28 => "NoMap" | 29 => "NoName"
  | _ => ""
def cflds : Nat → List Str
  | 0 => ["rounds"] | 1 => ["table", "ground"] | 2 => ["lower", "upper", "kept"] | 3 => ["source", "goal", "images"] | 4 => ["kept", "past"]
  | 22 => ["at"] | 23 => ["y", "x"] | 24 => ["three"] | 25 => ["two"] | 26 => ["x"] | 27 => ["many"] | 28 => ["head"] | 29 => ["name"]
  | _ => []
inductive Res (α : Type) where
  | ok (a : α) | er (e : D) | bad
@[inline] def Res.bind {α β : Type} (r : Res α) (f : α → Res β) : Res β := match r with
  | .ok a => f a
  | .er e => .er e
  | .bad => .bad
instance : Monad Res where
  pure := .ok
  bind := Res.bind
@[simp] theorem ok_bind {α β : Type} (a : α) (f : α → Res β) : (Res.ok a >>= f) = f a := rfl
@[simp] theorem er_bind {α β : Type} (e : D) (f : α → Res β) : ((Res.er e : Res α) >>= f) = .er e := rfl
@[simp] theorem bad_bind {α β : Type} (f : α → Res β) : ((Res.bad : Res α) >>= f) = .bad := rfl
@[simp] theorem pure_ok {α : Type} (a : α) : (pure a : Res α) = .ok a := rfl
/-- the ground: what the module has written -/
structure GC where
  P : Program
  w : World
  K : PySem.W.Frag
  mg : Str → Option Value
/-- where the class stands -/
def GC.ca (G : GC) (c : Nat) : Addr := match G.mg (cname c) with
  | some (.ref C) => C
  | _ => 0
abbrev gOf (X : Cx) : GC := ⟨X.prog, X.w, X.K, X.mg⟩
/-- a datum as a key -/
def keyOf : D → Option NestedKey
  | .non => some .none
  | .bl b => some (.num (if b = true then 1 else 0))
  | .int i => some (.num i)
  | .str s => some (.text s)
  | .tup xs => (keysOf xs).map .tup
  | _ => none
where keysOf : List D → Option (List NestedKey)
  | [] => some []
  | x :: xs => match keyOf x, keysOf xs with
    | some k, some ks => some (k :: ks)
    | _, _ => none
/-- at a stands a dict with the entries' keys at addresses and values -/
structure DicO (G : GC) (o : Obj) (xs : List (NestedKey × Addr × Value)) : Prop where
  ex : o.ExactDict
  dat : ∃ es ep, o.data = .dict es ep ∧ es.toList = xs.map (entryOfKey (nestedKind G.P G.w))
  nd : (xs.map (·.1)).Nodup
  dp : ∀ x ∈ xs, x.1.depth ≤ 8
  sz : xs.length ≤ sizeLine
def isObj' (a : Addr) (o : Obj) : Heap → Prop := fun h => h.get? a = some o
def isExc (a : Addr) (C : Addr) (d : Option Addr) : Heap → Prop := fun h => ∃ oe vs, h.get? a = some oe ∧ oe.cls = .ref C ∧ oe.dict = d ∧ oe.data = .fields vs
mutual
/-- v bears d in F -/
inductive Rep (G : GC) (F : Hp) : V → D → Prop
  | non : Rep G F .non .non
  | bl (b : Bool) : Rep G F (.bl b) (.bl b)
  | int (i : Int) : Rep G F (.int i) (.int i)
  | str (s : Str) : Rep G F (.str s) (.str s)
  | tup {a : Addr} {vs : List V} {ds : List D} : SqT G.K F a vs → RepAll G F vs ds → Rep G F (.ref a) (.tup ds)
  | lst {a : Addr} {vs : List V} {ds : List D} : F a = some (.lst vs) → RepAll G F vs ds → Rep G F (.ref a) (.lst ds)
  | scr {a : Addr} {ns : List Int} : SqL G.K F a (ns.map V.int) → Rep G F (.ref a) (.scr ns)
  | dic {a : Addr} {o : Obj} {xs : List (NestedKey × Addr × Value)} {ws : List V} {ks vs : List D} : F a = some (.ext (isObj' a o)) → (a == sysModules) = false → DicO G o xs → Vals ws (xs.map (·.2.2)) →
      RepAll G F (xs.map fun x => V.ref x.2.1) ks → ks.map keyOf = xs.map (fun x => some x.1) → RepAll G F ws vs → Rep G F (.ref a) (.dic ks vs)
  | obj {a dx : Addr} {c : Nat} {ws : List V} {vs : List D} : F a = some (.ins (G.ca c) dx ((cflds c).zip ws)) → ws.length ≤ (cflds c).length → RepAll G F ws vs → Rep G F (.ref a) (.obj c vs)
  | exc {a : Addr} {c : Nat} : F a = some (.ext (isExc a (G.ca c) none)) → cflds c = [] → Rep G F (.ref a) (.exc c [])
  | excF {a dx : Addr} {c : Nat} {ws : List V} {vs : List D} : F a = some (.ext (isExc a (G.ca c) (some dx))) → F dx = some (.xd ((cflds c).zip ws)) → ws.length = (cflds c).length → RepAll G F ws vs → Rep G F (.ref a) (.exc c vs)
  | cls {C : Addr} {c : Nat} : G.mg (cname c) = some (.ref C) → Rep G F (.ref C) (.cls c)
  | ty (n : String) : Rep G F (.ty n) (.ty n)
inductive RepAll (G : GC) (F : Hp) : List V → List D → Prop
  | nil : RepAll G F [] []
  | cons {v : V} {d : D} {vs : List V} {ds : List D} : Rep G F v d → RepAll G F vs ds → RepAll G F (v :: vs) (d :: ds)
end
theorem Same.sqT {K : PySem.W.Frag} {H H' : Hp} {a : Addr} {xs : List V} (e : Same H H') (h : SqT K H a xs) : SqT K H' a xs := by
  rcases h with (h | ⟨o, h⟩) | h
  · exact .inl (.inl (e _ _ h))
  · exact .inl (.inr ⟨o, e _ _ h⟩)
  · exact .inr h
mutual
theorem Rep.mono {G : GC} {F F' : Hp} (s : Same F F') : ∀ {v : V} {d : D}, Rep G F v d → Rep G F' v d
  | _, _, .non => .non
  | _, _, .bl b => .bl b
  | _, _, .int i => .int i
  | _, _, .str x => .str x
  | _, _, .tup h r => .tup (Same.sqT s h) (RepAll.mono s r)
  | _, _, .lst h r => .lst (s _ _ h) (RepAll.mono s r)
  | _, _, .scr h => .scr (s.seq h)
  | _, _, .dic h1 h2 h3 h4 h5 h6 h7 => .dic (s _ _ h1) h2 h3 h4 (RepAll.mono s h5) h6 (RepAll.mono s h7)
  | _, _, .obj h z r => .obj (s _ _ h) z (RepAll.mono s r)
  | _, _, .exc h z => .exc (s _ _ h) z
  | _, _, .excF h1 h2 z r => .excF (s _ _ h1) (s _ _ h2) z (RepAll.mono s r)
  | _, _, .cls h => .cls h
  | _, _, .ty n => .ty n
theorem RepAll.mono {G : GC} {F F' : Hp} (s : Same F F') : ∀ {vs : List V} {ds : List D}, RepAll G F vs ds → RepAll G F' vs ds
  | _, _, .nil => .nil
  | _, _, .cons r t => .cons (Rep.mono s r) (RepAll.mono s t)
end
section
variable {G : GC} {F : Hp}
theorem RepAll.length : ∀ {vs : List V} {ds : List D}, RepAll G F vs ds → vs.length = ds.length
  | _, _, .nil => rfl
  | _, _, .cons _ t => congrArg (· + 1) (RepAll.length t)
theorem RepAll.get : ∀ {vs : List V} {ds : List D} {i : Nat} {d : D}, RepAll G F vs ds → ds[i]? = some d → ∃ v, vs[i]? = some v ∧ Rep G F v d
  | _, _, _, _, .nil, e => by simp at e
  | _, _, 0, _, .cons r _, e => by simp at e; subst e; exact ⟨_, rfl, r⟩
  | _, _, i + 1, d, .cons _ t, e => by
    obtain ⟨v, h1, h2⟩ := RepAll.get (i := i) (d := d) t (by simpa using e)
    exact ⟨v, by simpa using h1, h2⟩
theorem RepAll.getV : ∀ {vs : List V} {ds : List D} {i : Nat} {v : V}, RepAll G F vs ds → vs[i]? = some v → ∃ d, ds[i]? = some d ∧ Rep G F v d
  | _, _, _, _, .nil, e => by simp at e
  | _, _, 0, _, .cons r _, e => by simp at e; subst e; exact ⟨_, rfl, r⟩
  | _, _, i + 1, v, .cons _ t, e => by
    obtain ⟨d, h1, h2⟩ := RepAll.getV (i := i) (v := v) t (by simpa using e)
    exact ⟨d, by simpa using h1, h2⟩
theorem RepAll.append : ∀ {vs ws : List V} {ds es : List D}, RepAll G F vs ds → RepAll G F ws es → RepAll G F (vs ++ ws) (ds ++ es)
  | _, _, _, _, .nil, s => s
  | _, _, _, _, .cons r t, s => .cons r (RepAll.append t s)
theorem RepAll.set {v : V} {d : D} (r : Rep G F v d) : ∀ {vs : List V} {ds : List D} (i : Nat), RepAll G F vs ds → RepAll G F (vs.set i v) (ds.set i d)
  | _, _, _, .nil => .nil
  | _, _, 0, .cons _ t => .cons r t
  | _, _, i + 1, .cons q t => .cons q (RepAll.set r i t)
theorem RepAll.take : ∀ {vs : List V} {ds : List D} (n : Nat), RepAll G F vs ds → RepAll G F (vs.take n) (ds.take n)
  | _, _, 0, _ => .nil
  | _, _, _ + 1, .nil => .nil
  | _, _, n + 1, .cons r t => .cons r (RepAll.take n t)
theorem RepAll.drop : ∀ {vs : List V} {ds : List D} (n : Nat), RepAll G F vs ds → RepAll G F (vs.drop n) (ds.drop n)
  | _, _, 0, r => r
  | _, _, _ + 1, .nil => .nil
  | _, _, n + 1, .cons _ t => RepAll.drop n t
theorem RepAll.reverse : ∀ {vs : List V} {ds : List D}, RepAll G F vs ds → RepAll G F vs.reverse ds.reverse
  | _, _, .nil => .nil
  | _, _, .cons r t => by
    rw [List.reverse_cons, List.reverse_cons]
    exact RepAll.append (RepAll.reverse t) (.cons r .nil)
end
inductive Shape where
  | sh
  | flat
  | parts (l : List Shape)
  | opts (l : List Shape)
/-- the shape of the i-th part -/
def Shape.kid : Shape → Nat → Shape
  | .parts l, i => l.getD i .sh
  | .opts l, i => l.getD i .sh
  | _, _ => .sh
def Shape.pts : Shape → Bool
  | .parts _ => true
  | .opts _ => true
  | _ => false
def Shape.own : Shape → Bool
  | .sh => false
  | _ => true
mutual
/-- nothing that can be changed, at no depth -/
def soft : D → Bool
  | .non => true
  | .bl _ => true
  | .int _ => true
  | .str _ => true
  | .tup ds => softs ds
  | _ => false
def softs : List D → Bool
  | [] => true
  | d :: ds => soft d && softs ds
end
mutual
/-- v bears d, its own parts stand in H at A, the others in F -/
inductive Own (G : GC) (F H : Hp) : Shape → V → D → List Addr → Prop
  | sh {v : V} {d : D} : Rep G F v d → Own G F H .sh v d []
  | lst {s : Shape} {a : Addr} {vs : List V} {ds : List D} {A : List Addr} : s.own = true → H a = some (.lst vs) → F a = none → OwnAll G F H s.kid 0 vs ds A → a ∉ A → Own G F H s (.ref a) (.lst ds) (a :: A)
  | tup {s : Shape} {a : Addr} {vs : List V} {ds : List D} {A : List Addr} : s.pts = true → H a = some (.tup vs) → F a = none → OwnAll G F H s.kid 0 vs ds A → a ∉ A → Own G F H s (.ref a) (.tup ds) (a :: A)
  | dic {s : Shape} {a : Addr} {o : Obj} {xs : List (NestedKey × Addr × Value)} {ws : List V} {ks vs : List D} {A : List Addr} : s.own = true → H a = some (.ext (isObj' a o)) → F a = none → (a == sysModules) = false → DicO G o xs → Vals ws (xs.map (·.2.2)) →
      RepAll G F (xs.map fun x => V.ref x.2.1) ks → ks.map keyOf = xs.map (fun x => some x.1) → OwnAll G F H s.kid 0 ws vs A → a ∉ A → Own G F H s (.ref a) (.dic ks vs) (a :: A)
  | obj {s : Shape} {a dx : Addr} {c : Nat} {ws : List V} {vs : List D} {A : List Addr} : s.own = true → H a = some (.ins (G.ca c) dx ((cflds c).zip ws)) → F a = none → ws.length ≤ (cflds c).length → OwnAll G F H s.kid 0 ws vs A → a ∉ A →
      Own G F H s (.ref a) (.obj c vs) (a :: A)
  | opt {l : List Shape} {v : V} {ds : List D} : Rep G F v (.tup ds) → (∀ n d, ds[n]? = some d → ((Shape.opts l).kid n).own = true → soft d = true) → Own G F H (.opts l) v (.tup ds) []
inductive OwnAll (G : GC) (F H : Hp) : (Nat → Shape) → Nat → List V → List D → List Addr → Prop
  | nil {f : Nat → Shape} {n : Nat} : OwnAll G F H f n [] [] []
  | cons {f : Nat → Shape} {n : Nat} {v : V} {d : D} {vs : List V} {ds : List D} {A B : List Addr} : Own G F H (f n) v d A → OwnAll G F H f (n + 1) vs ds B → (∀ a ∈ A, a ∉ B) → OwnAll G F H f n (v :: vs) (d :: ds) (A ++ B)
end
/-- no code table -/
def Nt (o : HO) : Prop := ∀ ps, o ≠ .tbl ps
/-- the name that the code objects of a table bear -/
class Tn where
  q : Addr → Str
  l : List Addr
variable [Tn]
/-- a code object of the name q -/
def isCode (oc : Obj) (q : Str) : Prop := ∃ (vs : Array Value) (t : Tok), oc.data = .fields vs ∧ vs[1]? = some (.str q t)
abbrev frzO (o : Obj) : HO := .frz o (.ext fun _ => True)
/-- the table of code objects at P: each one that it tells is shared and bears its name -/
def TabF (F H : Hp) (P : Addr) : Prop :=
  F P = none ∧ ∃ ps : Array Value, H P = some (.tbl ps) ∧ TriplesOk ps.toList ∧ ∀ (pos : Pos) (cv : Value), codeAmong pos ps.toList = some cv → ∃ c oc, cv = .ref c ∧ F c = some (frzO oc) ∧ isCode oc (Tn.q P)
/-- all tables -/
def Tt (F H : Hp) : Prop := ∀ P ∈ Tn.l, TabF F H P
/-- no address is free any more that was not -/
def Fre (H H' : Hp) : Prop := ∀ a, H' a = none → H a = none
theorem _root_.L2.Same.fre {H H' : Hp} (s : Same H H') : Fre H H' := fun _ e => s.free e
theorem Fre.trans {H H1 H2 : Hp} (a : Fre H H1) (b : Fre H1 H2) : Fre H H2 := fun c e => a c (b c e)
/-- all but the tables of code objects stays; they grow -/
structure Stays (F H F' H' : Hp) : Prop where
  at' : ∀ a o, H a = some o → Nt o → H' a = some o
  tb : ∀ P ps, H P = some (.tbl ps) → ∃ ps', H' P = some (.tbl ps')
  tf : ∀ P, TabF F H P → TabF F' H' P
theorem Stays.tt {F H F' H' : Hp} (s : Stays F H F' H') (t : Tt F H) : Tt F' H' := fun P h => s.tf P (t P h)
section
variable {F H F' H' F1 H1 F2 H2 : Hp}
theorem Stays.at (s : Stays F H F' H') (a : Addr) (o : HO) (h : H a = some o) (n : Nt o := by intro _ z; cases z) : H' a = some o := s.at' a o h n
theorem Stays.fre (s : Stays F H F' H') : Fre H H' := fun a e => by
  cases q : H a with
  | none => rfl
  | some o =>
    by_cases h : ∃ ps, o = .tbl ps
    · obtain ⟨ps, rfl⟩ := h
      obtain ⟨ps', z⟩ := s.tb a ps q
      rw [e] at z; cases z
    · have := s.at' a o q fun ps z => h ⟨ps, z⟩
      rw [e] at this; cases this
theorem Stays.free (s : Stays F H F' H') {a : Addr} (e : H' a = none) : H a = none := s.fre a e
theorem Stays.of (h : Same H H') (f : Same F F') (n : ∀ a o, F' a = some o → F a = some o ∨ H a = none) : Stays F H F' H' where
  at' := fun a o e _ => h a o e
  tb := fun P ps e => ⟨ps, h P _ e⟩
  tf := fun P ⟨h0, ps, h1, h2, h3⟩ => by
    refine ⟨?_, ps, h P _ h1, h2, fun pos cv e => ?_⟩
    · cases e : F' P with
      | none => rfl
      | some o =>
        rcases n P o e with z | z
        · rw [h0] at z
          cases z
        · rw [h1] at z
          cases z
    · obtain ⟨c, oc, a, b, z⟩ := h3 pos cv e
      exact ⟨c, oc, a, f c _ b, z⟩
theorem Stays.refl : Stays F H F H := ⟨fun _ _ e _ => e, fun _ ps e => ⟨ps, e⟩, fun _ h => h⟩
theorem Stays.trans (a : Stays F H F1 H1) (b : Stays F1 H1 F2 H2) : Stays F H F2 H2 :=
  ⟨fun x o e n => b.at' x o (a.at' x o e n) n, fun P ps e => let ⟨ps1, e1⟩ := a.tb P ps e; b.tb P ps1 e1, fun P h => b.tf P (a.tf P h)⟩
/-- a new thing, or one's own, is written -/
theorem Stays.upd {x : Addr} {o : HO} (s : Stays F H F' H') (hx : H x = none) : Stays F H F' (upd H' x o) where
  at' := fun b u e n => by rw [upd_ne (ne_of_none e hx)]; exact s.at' b u e n
  tb := fun P ps e => by rw [upd_ne (ne_of_none e hx)]; exact s.tb P ps e
  tf := fun P h => by
    obtain ⟨_, _, e, _⟩ := id h
    obtain ⟨h0, ps, h1, h2⟩ := s.tf P h
    exact ⟨h0, ps, by rw [upd_ne (ne_of_none e hx)]; exact h1, h2⟩
end
/-- without the tables -/
def nT (H : Hp) : Hp := fun a => match H a with
  | some (.tbl _) => none
  | o => o
theorem nT_at {H : Hp} {a : Addr} {o : HO} (h : H a = some o) (n : Nt o := by intro _ z; cases z) : nT H a = some o := by
  unfold nT
  rw [h]
  cases o <;> first | rfl | exact absurd rfl (n _)
theorem nT_of {H : Hp} {a : Addr} {o : HO} (h : nT H a = some o) : H a = some o ∧ Nt o := by
  unfold nT at h
  split at h
  · cases h
  · rename_i q
    exact ⟨h, fun ps z => by subst z; exact q ps h⟩
theorem Stays.nT {F H F' H' : Hp} (s : Stays F H F' H') : Same (Mir.nT H) H' := fun a o e => s.at' a o (nT_of e).1 (nT_of e).2
theorem rd_nT {H : Hp} {a : Addr} {o : HO} (n : Nt o) (h : Rd H a o) : Rd (nT H) a o := by
  rcases h with h | ⟨u, h⟩
  · exact .inl (nT_at h n)
  · exact .inr ⟨u, nT_at h⟩
theorem sqL_nT {K : PySem.W.Frag} {H : Hp} {a : Addr} {xs : List V} (h : SqL K H a xs) : SqL K (nT H) a xs := h.imp (rd_nT (by intro _ z; cases z)) id
theorem sqT_nT {K : PySem.W.Frag} {H : Hp} {a : Addr} {xs : List V} (h : SqT K H a xs) : SqT K (nT H) a xs := h.imp (rd_nT (by intro _ z; cases z)) id
/-- what grows: the heap, the shared part; nothing old becomes shared -/
structure Grow (F H F' H' : Hp) : Prop where
  h : Stays F H F' H'
  f : Same F F'
  sub : Same F' H'
  new : ∀ a o, F' a = some o → F a = some o ∨ H a = none
theorem Grow.of {F H F' H' : Hp} (h : Same H H') (f : Same F F') (sub : Same F' H') (new : ∀ a o, F' a = some o → F a = some o ∨ H a = none) : Grow F H F' H' := ⟨.of h f new, f, sub, new⟩
theorem Grow.refl {F H : Hp} (s : Same F H) : Grow F H F H := ⟨Stays.refl, Same.refl _, s, fun _ _ e => .inl e⟩
theorem Grow.trans {F H F1 H1 F2 H2 : Hp} (a : Grow F H F1 H1) (b : Grow F1 H1 F2 H2) : Grow F H F2 H2 :=
  ⟨a.h.trans b.h, a.f.trans b.f, b.sub, fun x o e => (b.new x o e).elim (fun q => a.new x o q) fun q => .inr (a.h.free q)⟩
/-- what stays of the own parts -/
structure Keep (A : List Addr) (F H F' H' : Hp) : Prop where
  h : ∀ a ∈ A, ∀ o, H a = some o → H' a = some o
  f : Same F F'
  n : ∀ a ∈ A, F a = none → F' a = none
theorem Grow.keep {F H F' H' : Hp} (g : Grow F H F' H') {A : List Addr} (hA : ∀ a ∈ A, ∃ o, H a = some o) (hn : ∀ a ∈ A, ∀ ps, H a ≠ some (.tbl ps)) : Keep A F H F' H' :=
  ⟨fun a ha o e => g.h.at' a o e fun ps z => hn a ha ps (z ▸ e), g.f, fun a ha e => by
    cases q : F' a with
    | none => rfl
    | some o =>
      rcases g.new a o q with z | z
      · rw [e] at z; cases z
      · obtain ⟨o', e'⟩ := hA a ha
        rw [z] at e'; cases e'⟩
section
variable {G : GC} {F H F' H' : Hp}
mutual
theorem Own.keep : ∀ {s : Shape} {v : V} {d : D} {A : List Addr}, Own G F H s v d A → Keep A F H F' H' → Own G F' H' s v d A
  | _, _, _, _, .sh r, k => .sh (r.mono k.f)
  | _, _, _, _, .lst h0 h1 h2 h3 h4, k => .lst h0 (k.h _ List.mem_cons_self _ h1) (k.n _ List.mem_cons_self h2) (OwnAll.keep h3 ⟨fun a ha => k.h a (List.mem_cons_of_mem _ ha), k.f, fun a ha => k.n a (List.mem_cons_of_mem _ ha)⟩) h4
  | _, _, _, _, .tup h0 h1 h2 h3 h4, k => .tup h0 (k.h _ List.mem_cons_self _ h1) (k.n _ List.mem_cons_self h2) (OwnAll.keep h3 ⟨fun a ha => k.h a (List.mem_cons_of_mem _ ha), k.f, fun a ha => k.n a (List.mem_cons_of_mem _ ha)⟩) h4
  | _, _, _, _, .dic h0 h1 h2 z1 z2 z3 z4 z5 h3 h4, k => .dic h0 (k.h _ List.mem_cons_self _ h1) (k.n _ List.mem_cons_self h2) z1 z2 z3 (z4.mono k.f) z5 (OwnAll.keep h3 ⟨fun a ha => k.h a (List.mem_cons_of_mem _ ha), k.f, fun a ha => k.n a (List.mem_cons_of_mem _ ha)⟩) h4
  | _, _, _, _, .obj h0 h1 h2 z h3 h4, k => .obj h0 (k.h _ List.mem_cons_self _ h1) (k.n _ List.mem_cons_self h2) z (OwnAll.keep h3 ⟨fun a ha => k.h a (List.mem_cons_of_mem _ ha), k.f, fun a ha => k.n a (List.mem_cons_of_mem _ ha)⟩) h4
  | _, _, _, _, .opt r h, k => .opt (r.mono k.f) h
theorem OwnAll.keep : ∀ {f : Nat → Shape} {n : Nat} {vs : List V} {ds : List D} {A : List Addr}, OwnAll G F H f n vs ds A → Keep A F H F' H' → OwnAll G F' H' f n vs ds A
  | _, _, _, _, _, .nil, _ => .nil
  | _, _, _, _, _, .cons r t x, k => .cons (Own.keep r ⟨fun a ha => k.h a (List.mem_append_left _ ha), k.f, fun a ha => k.n a (List.mem_append_left _ ha)⟩)
      (OwnAll.keep t ⟨fun a ha => k.h a (List.mem_append_right _ ha), k.f, fun a ha => k.n a (List.mem_append_right _ ha)⟩) x
end
mutual
theorem Own.there : ∀ {s : Shape} {v : V} {d : D} {A : List Addr}, Own G F H s v d A → ∀ a ∈ A, F a = none ∧ ∃ o, H a = some o
  | _, _, _, _, .sh _, _, h => nomatch h
  | _, _, _, _, .lst _ h1 h2 h3 _, a, h => (List.mem_cons.mp h).elim (fun e => by subst e; exact ⟨h2, _, h1⟩) (OwnAll.there h3 a)
  | _, _, _, _, .tup _ h1 h2 h3 _, a, h => (List.mem_cons.mp h).elim (fun e => by subst e; exact ⟨h2, _, h1⟩) (OwnAll.there h3 a)
  | _, _, _, _, .dic _ h1 h2 _ _ _ _ _ h3 _, a, h => (List.mem_cons.mp h).elim (fun e => by subst e; exact ⟨h2, _, h1⟩) (OwnAll.there h3 a)
  | _, _, _, _, .obj _ h1 h2 _ h3 _, a, h => (List.mem_cons.mp h).elim (fun e => by subst e; exact ⟨h2, _, h1⟩) (OwnAll.there h3 a)
theorem OwnAll.there : ∀ {f : Nat → Shape} {n : Nat} {vs : List V} {ds : List D} {A : List Addr}, OwnAll G F H f n vs ds A → ∀ a ∈ A, F a = none ∧ ∃ o, H a = some o
  | _, _, _, _, _, .nil, _, h => nomatch h
  | _, _, _, _, _, .cons r t _, a, h => (List.mem_append.mp h).elim (Own.there r a) (OwnAll.there t a)
end
mutual
theorem Own.nt : ∀ {s : Shape} {v : V} {d : D} {A : List Addr}, Own G F H s v d A → ∀ a ∈ A, ∀ ps, H a ≠ some (.tbl ps)
  | _, _, _, _, .sh _, _, h => nomatch h
  | _, _, _, _, .lst _ h1 h2 h3 _, a, h => (List.mem_cons.mp h).elim (fun e ps z => by subst e; rw [h1] at z; cases z) (OwnAll.nt h3 a)
  | _, _, _, _, .tup _ h1 h2 h3 _, a, h => (List.mem_cons.mp h).elim (fun e ps z => by subst e; rw [h1] at z; cases z) (OwnAll.nt h3 a)
  | _, _, _, _, .dic _ h1 h2 _ _ _ _ _ h3 _, a, h => (List.mem_cons.mp h).elim (fun e ps z => by subst e; rw [h1] at z; cases z) (OwnAll.nt h3 a)
  | _, _, _, _, .obj _ h1 h2 _ h3 _, a, h => (List.mem_cons.mp h).elim (fun e ps z => by subst e; rw [h1] at z; cases z) (OwnAll.nt h3 a)
theorem OwnAll.nt : ∀ {f : Nat → Shape} {n : Nat} {vs : List V} {ds : List D} {A : List Addr}, OwnAll G F H f n vs ds A → ∀ a ∈ A, ∀ ps, H a ≠ some (.tbl ps)
  | _, _, _, _, _, .nil, _, h => nomatch h
  | _, _, _, _, _, .cons r t _, a, h => (List.mem_append.mp h).elim (Own.nt r a) (OwnAll.nt t a)
end
mutual
theorem Own.nc : ∀ {s : Shape} {v : V} {d : D} {A : List Addr}, Own G F H s v d A → ∀ a ∈ A, ∀ o u, H a ≠ some (.frz o u)
  | _, _, _, _, .sh _, _, h => nomatch h
  | _, _, _, _, .lst _ h1 h2 h3 _, a, h => (List.mem_cons.mp h).elim (fun e o u z => by subst e; rw [h1] at z; cases z) (OwnAll.nc h3 a)
  | _, _, _, _, .tup _ h1 h2 h3 _, a, h => (List.mem_cons.mp h).elim (fun e o u z => by subst e; rw [h1] at z; cases z) (OwnAll.nc h3 a)
  | _, _, _, _, .dic _ h1 h2 _ hd _ _ _ h3 _, a, h => (List.mem_cons.mp h).elim (fun e o u z => by subst e; rw [h1] at z; cases z) (OwnAll.nc h3 a)
  | _, _, _, _, .obj _ h1 h2 _ h3 _, a, h => (List.mem_cons.mp h).elim (fun e o u z => by subst e; rw [h1] at z; cases z) (OwnAll.nc h3 a)
theorem OwnAll.nc : ∀ {f : Nat → Shape} {n : Nat} {vs : List V} {ds : List D} {A : List Addr}, OwnAll G F H f n vs ds A → ∀ a ∈ A, ∀ o u, H a ≠ some (.frz o u)
  | _, _, _, _, _, .nil, _, h => nomatch h
  | _, _, _, _, _, .cons r t _, a, h => (List.mem_append.mp h).elim (Own.nc r a) (OwnAll.nc t a)
end
theorem Own.grow {s : Shape} {v : V} {d : D} {A : List Addr} (o : Own G F H s v d A) (g : Grow F H F' H') : Own G F' H' s v d A := o.keep (g.keep (fun a ha => (o.there a ha).2) o.nt)
/-- the own parts become shared -/
def share (F H : Hp) (A : List Addr) : Hp := fun b => if b ∈ A then H b else F b
theorem share_sub (s : Same F H) (A : List Addr) : Same (share F H A) H := fun b o e => by
  unfold share at e
  split at e
  · exact e
  · exact s b o e
theorem share_same (s : Same F H) (A : List Addr) : Same F (share F H A) := fun b o e => by
  unfold share
  split
  · exact s b o e
  · exact e
/-- .. and nothing else changes -/
theorem Stays.share {A : List Addr} (st : Stays F H F' H') (sub : Same F' H') (hn : ∀ a ∈ A, ∀ ps, H' a ≠ some (.tbl ps)) : Stays F H (share F' H' A) H' := ⟨st.at', st.tb, fun P h => by
  obtain ⟨h0, ps, h1, h2, h3⟩ := st.tf P h
  have hP : P ∉ A := fun z => hn P z ps h1
  refine ⟨by unfold Mir.share; rw [if_neg hP]; exact h0, ps, h1, h2, fun pos cv e => ?_⟩
  obtain ⟨c, oc, a, b, z⟩ := h3 pos cv e
  exact ⟨c, oc, a, share_same sub A c _ b, z⟩⟩
/-- what was lent is one's own again -/
theorem Stays.unshare {A : List Addr} {F2 : Hp} (st : Stays (Mir.share F H A) H F' H') (sub : Same F H) (f : Same (Mir.share F H A) F') (ht : ∀ a ∈ A, ∃ o, H a = some o) (hn : ∀ a ∈ A, ∀ ps, H a ≠ some (.tbl ps)) (hc : ∀ a ∈ A, ∀ o u, H a ≠ some (.frz o u))
    (h2 : ∀ a, a ∉ A → F2 a = F' a) : Stays F H F2 H' := ⟨st.at', st.tb, fun P h => by
  have hP : P ∉ A := fun z => by
    obtain ⟨_, ps, h1, _⟩ := h
    exact hn P z ps h1
  obtain ⟨h0, ps, h1, h3, h4⟩ := st.tf P ((Stays.refl.share sub hn).tf P h)
  refine ⟨by rw [h2 P hP]; exact h0, ps, h1, h3, fun pos cv e => ?_⟩
  obtain ⟨c, oc, a, b, w⟩ := h4 pos cv e
  refine ⟨c, oc, a, ?_, w⟩
  rw [h2 c fun z => ?_]
  · exact b
  · obtain ⟨o, ho⟩ := ht c z
    have e1 : Mir.share F H A c = some o := by unfold Mir.share; rw [if_pos z]; exact ho
    have := f c o e1
    rw [b] at this
    cases this
    exact hc c z _ _ ho⟩
theorem share_at {A : List Addr} {a : Addr} (h : a ∈ A) : share F H A a = H a := if_pos h
theorem share_ne {A : List Addr} {a : Addr} (h : a ∉ A) : share F H A a = F a := if_neg h
mutual
theorem Own.rep (s : Same F H) : ∀ {sp : Shape} {v : V} {d : D} {A : List Addr}, Own G F H sp v d A → ∀ B : List Addr, (∀ a ∈ A, a ∈ B) → Rep G (share F H B) v d
  | _, _, _, _, .sh r, B, _ => r.mono (share_same s B)
  | _, _, _, _, .lst _ h1 _ h3 _, B, hB => .lst ((share_at (hB _ List.mem_cons_self)).trans h1) (OwnAll.rep s h3 B fun a ha => hB a (List.mem_cons_of_mem _ ha))
  | _, _, _, _, .tup _ h1 _ h3 _, B, hB => .tup (.of ((share_at (hB _ List.mem_cons_self)).trans h1)) (OwnAll.rep s h3 B fun a ha => hB a (List.mem_cons_of_mem _ ha))
  | _, _, _, _, .dic _ h1 _ z1 z2 z3 z4 z5 h3 _, B, hB => .dic ((share_at (hB _ List.mem_cons_self)).trans h1) z1 z2 z3 (z4.mono (share_same s B)) z5 (OwnAll.rep s h3 B fun a ha => hB a (List.mem_cons_of_mem _ ha))
  | _, _, _, _, .obj _ h1 _ z h3 _, B, hB => .obj ((share_at (hB _ List.mem_cons_self)).trans h1) z (OwnAll.rep s h3 B fun a ha => hB a (List.mem_cons_of_mem _ ha))
  | _, _, _, _, .opt r _, B, _ => r.mono (share_same s B)
theorem OwnAll.rep (s : Same F H) : ∀ {f : Nat → Shape} {n : Nat} {vs : List V} {ds : List D} {A : List Addr}, OwnAll G F H f n vs ds A → ∀ B : List Addr, (∀ a ∈ A, a ∈ B) → RepAll G (share F H B) vs ds
  | _, _, _, _, _, .nil, _, _ => .nil
  | _, _, _, _, _, .cons r t _, B, hB => .cons (Own.rep s r B fun a ha => hB a (List.mem_append_left _ ha)) (OwnAll.rep s t B fun a ha => hB a (List.mem_append_right _ ha))
end
theorem OwnAll.of_rep : ∀ {vs : List V} {ds : List D} {n : Nat}, RepAll G F vs ds → OwnAll G F H (fun _ => .sh) n vs ds []
  | _, _, _, .nil => .nil
  | _, _, _, .cons r t => OwnAll.cons (A := []) (B := []) (.sh r) (OwnAll.of_rep t) (fun _ z => nomatch z)
theorem OwnAll.to_rep : ∀ {vs : List V} {ds : List D} {n : Nat} {A : List Addr}, OwnAll G F H (fun _ => .sh) n vs ds A → A = [] ∧ RepAll G F vs ds
  | _, _, _, _, .nil => ⟨rfl, .nil⟩
  | _, _, _, _, .cons r t _ => by
    cases r with
    | sh r =>
      obtain ⟨e, t'⟩ := OwnAll.to_rep t
      subst e
      exact ⟨rfl, .cons r t'⟩
    | lst h => cases h
    | tup h => cases h
    | dic h => cases h
    | obj h => cases h
end
end Mir
namespace Mir
open PySem PySem.Spec PyProof.Rows L2
variable [Tn]
inductive Slot where
  | un | sh (d : D) | ow (s : Shape) (d : D)
abbrev Env := List Slot
/-- to be read: shared, or one's own with shared parts -/
def RdD (G : GC) (F H : Hp) (v : V) (d : D) : Prop := Rep G F v d ∨ ∃ A, Own G F H .flat v d A
def getS (i : Nat) (r : Env) : Res D := match r[i]? with
  | some (.sh d) => .ok d
  | _ => .bad
def getR (i : Nat) (r : Env) : Res D := match r[i]? with
  | some (.sh d) => .ok d
  | some (.ow .flat d) => .ok d
  | _ => .bad
def freeze (i : Nat) (r : Env) : Env := match r[i]? with
  | some (.ow _ d) => r.set i (.sh d)
  | _ => r
/-- what is wished of an exception; what stays true of the names' values -/
structure Wi where
  w : WX
  J : L2.St → Prop
/-- the state of a def: slots, heap; fp i: the addresses that the i-th name owns -/
structure MS (G : GC) (J : L2.St → Prop) (H0 F0 : Hp) (fp : Nat → List Addr) (F : Hp) (σ : L2.St) (H : Hp) (r : Env) : Prop where
  jo : J σ
  s0 : Stays F0 H0 F H
  f0 : Same F0 F
  sub : Same F H
  new : ∀ a o, F a = some o → F0 a = some o ∨ H0 a = none
  len : r.length = σ.length
  sh : ∀ (i : Nat) (d : D), r[i]? = some (.sh d) → ∃ v, σ[i]? = some (some v) ∧ Rep G F v d
  ow : ∀ (i : Nat) (s : Shape) (d : D), r[i]? = some (.ow s d) → (∃ v, σ[i]? = some (some v) ∧ Own G F H s v d (fp i)) ∧ ∀ a ∈ fp i, H0 a = none
  ap : ∀ (i j : Nat) (s t : Shape) (d e : D), i ≠ j → r[i]? = some (.ow s d) → r[j]? = some (.ow t e) → ∀ a ∈ fp i, a ∉ fp j
  t0 : Tt F0 H0
section
variable {G : GC} {J : L2.St → Prop} {H0 F0 F H F' H' : Hp} {fp : Nat → List Addr} {σ : L2.St} {r : Env}
theorem MS.grow (m : MS G J H0 F0 fp F σ H r) (g : Grow F H F' H') : MS G J H0 F0 fp F' σ H' r where
  jo := m.jo
  s0 := m.s0.trans g.h
  f0 := m.f0.trans g.f
  sub := g.sub
  new := fun a o e => (g.new a o e).elim (m.new a o) fun q => .inr (m.s0.free q)
  len := m.len
  sh := fun i d e => let ⟨v, h1, h2⟩ := m.sh i d e; ⟨v, h1, h2.mono g.f⟩
  ow := fun i s d e => let ⟨⟨v, h1, h2⟩, h3⟩ := m.ow i s d e; ⟨⟨v, h1, h2.grow g⟩, h3⟩
  ap := m.ap
  t0 := m.t0
theorem MS.tt (m : MS G J H0 F0 fp F σ H r) : Tt F H := m.s0.tt m.t0
theorem MS.getS (m : MS G J H0 F0 fp F σ H r) {i : Nat} {d : D} (h : getS i r = .ok d) : ∃ v, σ[i]? = some (some v) ∧ Rep G F v d := by
  unfold Mir.getS at h
  split at h
  · rename_i e; cases h; exact m.sh i _ e
  · cases h
theorem getS_not_er {i : Nat} {e : D} {r : Env} (h : Mir.getS i r = .er e) : False := by
  unfold Mir.getS at h
  split at h <;> cases h
theorem getR_not_er {i : Nat} {e : D} {r : Env} (h : Mir.getR i r = .er e) : False := by
  unfold Mir.getR at h
  split at h <;> cases h
theorem MS.getR (m : MS G J H0 F0 fp F σ H r) {i : Nat} {d : D} (h : getR i r = .ok d) : ∃ v, σ[i]? = some (some v) ∧ RdD G F H v d := by
  unfold Mir.getR at h
  split at h
  · rename_i e
    cases h
    obtain ⟨v, h1, h2⟩ := m.sh i _ e
    exact ⟨v, h1, .inl h2⟩
  · rename_i _ e
    cases h
    obtain ⟨⟨v, h1, h2⟩, _⟩ := m.ow i _ _ e
    exact ⟨v, h1, .inr ⟨_, h2⟩⟩
  · cases h
theorem get_set_slot {r : Env} {i j : Nat} {x y : Slot} (h : (r.set i x)[j]? = some y) : (i = j ∧ x = y ∧ i < r.length) ∨ (i ≠ j ∧ r[j]? = some y) := by
  by_cases e : i = j
  · subst e
    by_cases hl : i < r.length
    · rw [List.getElem?_set_self hl] at h
      exact .inl ⟨rfl, Option.some.inj h, hl⟩
    · rw [List.getElem?_eq_none (by simpa using hl)] at h
      cases h
  · rw [List.getElem?_set_ne e] at h
    exact .inr ⟨e, h⟩
/-- a shared value is put into the i-th name -/
theorem MS.setS (m : MS G J H0 F0 fp F σ H r) {v : V} {d : D} (i : Nat) (q : Rep G F v d) (hJ : ∀ σ v, J σ → J (σ.set i v)) : MS G J H0 F0 fp F (σ.set i (some v)) H (r.set i (.sh d)) where
  jo := hJ _ _ m.jo
  s0 := m.s0
  f0 := m.f0
  sub := m.sub
  new := m.new
  len := by simpa using m.len
  sh := fun j e h => by
    rcases get_set_slot h with ⟨rfl, x, hl⟩ | ⟨ne, h⟩
    · cases x
      exact ⟨v, List.getElem?_set_self (by rw [← m.len]; exact hl), q⟩
    · rw [List.getElem?_set_ne ne]
      exact m.sh j e h
  ow := fun j s e h => by
    rcases get_set_slot h with ⟨_, x, _⟩ | ⟨ne, h⟩
    · cases x
    · rw [List.getElem?_set_ne ne]
      exact m.ow j s e h
  ap := fun j k s t d e n h1 h2 => by
    rcases get_set_slot h1 with ⟨_, x, _⟩ | ⟨_, h1⟩
    · cases x
    · rcases get_set_slot h2 with ⟨_, x, _⟩ | ⟨_, h2⟩
      · cases x
      · exact m.ap j k s t d e n h1 h2
  t0 := m.t0
/-- an owned value is put into the i-th name -/
theorem MS.setO (m : MS G J H0 F0 fp F σ H r) {v : V} {d : D} {s : Shape} {A : List Addr} (i : Nat) (q : Own G F H s v d A) (hn : ∀ a ∈ A, H0 a = none) (hd : ∀ (j : Nat) (t : Shape) (e : D), j ≠ i → r[j]? = some (.ow t e) → ∀ a ∈ A, a ∉ fp j) (hJ : ∀ σ v, J σ → J (σ.set i v)) :
    MS G J H0 F0 (fun j => if j = i then A else fp j) F (σ.set i (some v)) H (r.set i (.ow s d)) where
  jo := hJ _ _ m.jo
  s0 := m.s0
  f0 := m.f0
  sub := m.sub
  new := m.new
  len := by simpa using m.len
  sh := fun j e h => by
    rcases get_set_slot h with ⟨_, x, _⟩ | ⟨ne, h⟩
    · cases x
    · rw [List.getElem?_set_ne ne]
      exact m.sh j e h
  ow := fun j s e h => by
    rcases get_set_slot h with ⟨rfl, x, hl⟩ | ⟨ne, h⟩
    · cases x
      rw [if_pos rfl]
      exact ⟨⟨v, List.getElem?_set_self (by rw [← m.len]; exact hl), q⟩, hn⟩
    · rw [List.getElem?_set_ne ne, if_neg (Ne.symm ne)]
      exact m.ow j s e h
  ap := fun j k s t d e n h1 h2 a => by
    rcases get_set_slot h1 with ⟨rfl, x, _⟩ | ⟨n1, h1⟩
    · rcases get_set_slot h2 with ⟨z, _, _⟩ | ⟨n2, h2⟩
      · exact absurd z n
      · cases x
        rw [if_pos rfl, if_neg (Ne.symm n2)]
        exact hd k t e (Ne.symm n2) h2 a
    · rcases get_set_slot h2 with ⟨rfl, x, _⟩ | ⟨n2, h2⟩
      · cases x
        rw [if_pos rfl, if_neg (Ne.symm n1)]
        exact fun ha hb => hd j s d (Ne.symm n1) h1 a hb ha
      · rw [if_neg (Ne.symm n1), if_neg (Ne.symm n2)]
        exact m.ap j k s t d e n h1 h2 a
  t0 := m.t0
/-- the i-th name's own parts become shared -/
theorem MS.freeze (m : MS G J H0 F0 fp F σ H r) (i : Nat) : ∃ F', Same F F' ∧ MS G J H0 F0 fp F' σ H (Mir.freeze i r) := by
  unfold Mir.freeze
  split
  · rename_i s d e
    obtain ⟨⟨v, h1, h2⟩, h3⟩ := m.ow i s d e
    refine ⟨share F H (fp i), share_same m.sub _, ?_⟩
    have hi : i < r.length := (List.getElem?_eq_some_iff.mp e).1
    refine ⟨m.jo, m.s0.share m.sub h2.nt, m.f0.trans (share_same m.sub _), share_sub m.sub _, fun a o q => ?_, by simpa using m.len, fun j e' h => ?_, fun j t e' h => ?_, fun j k t u d' e' n q1 q2 => ?_, m.t0⟩
    · by_cases ha : a ∈ fp i
      · exact .inr (h3 a ha)
      · rw [share_ne ha] at q
        exact m.new a o q
    · rcases get_set_slot h with ⟨rfl, x, hl⟩ | ⟨ne, h⟩
      · cases x
        exact ⟨v, h1, h2.rep m.sub _ fun _ z => z⟩
      · obtain ⟨w, q1, q2⟩ := m.sh j e' h
        exact ⟨w, q1, q2.mono (share_same m.sub _)⟩
    · rcases get_set_slot h with ⟨_, x, _⟩ | ⟨ne, h⟩
      · cases x
      · obtain ⟨⟨w, q1, q2⟩, q3⟩ := m.ow j t e' h
        refine ⟨⟨w, q1, q2.keep ⟨fun _ _ _ z => z, share_same m.sub _, fun a ha z => ?_⟩⟩, q3⟩
        rw [share_ne (m.ap j i t s e' d (Ne.symm ne) h e a ha)]
        exact z
    · rcases get_set_slot q1 with ⟨_, x, _⟩ | ⟨_, q1⟩
      · cases x
      · rcases get_set_slot q2 with ⟨_, x, _⟩ | ⟨_, q2⟩
        · cases x
        · exact m.ap j k t u d' e' n q1 q2
  · exact ⟨F, Same.refl _, m⟩
end
inductive Kd where
  | S | R
  | O (s : Shape)
/-- what may be read -/
def Kd.rd : Kd → Bool
  | .O (.parts _) => false
  | .O (.opts _) => false
  | _ => true
/-- v bears d: shared; to be read; one's own and new since H -/
def Kd.Rep (G : GC) (H F' H' : Hp) (v : V) (d : D) : Kd → Prop
  | .S => Mir.Rep G F' v d
  | .R => RdD G F' H' v d
  | .O s => ∃ A, Own G F' H' s v d A ∧ ∀ a ∈ A, H a = none
/-- an exception in the air is the datum e -/
def ExcIs (G : GC) (F : Hp) (cls : Value) (dd : Option Addr) (e : D) : Prop :=
  ∃ (c : Nat) (ws : List V) (vs : List D), e = .exc c vs ∧ cls = .ref (G.ca c) ∧ RepAll G F ws vs ∧
    ((dd = none ∧ cflds c = [] ∧ ws = []) ∨ ∃ dx, dd = some dx ∧ F dx = some (.xd ((cflds c).zip ws)) ∧ ws.length = (cflds c).length)
/-- what is due of an answer: behind it P; of an exception: the wish -/
def Out (G : GC) (W : Wi) (σ : L2.St) {α : Type} (F H : Hp) (P : Hp → Hp → α → Prop) : Res α → Prop
  | .ok a => ∀ F' H', Grow F H F' H' → P F' H' a
  | .er e => ∀ cls dd F' H', Grow F H F' H' → ExcIs G F' cls dd e → W.w cls dd σ H'
  | .bad => False
/-- the reading of an expression of worth f -/
def tE (G : GC) (W : Wi) (k : Kd) (f : Env → Res D) : TE := fun σ H Q => ∃ H0 F0 fp F r, MS G W.J H0 F0 fp F σ H r ∧ Out G W σ F H (fun F' H' d => ∀ v, k.Rep G H F' H' v d → Q v H') (f r)
def tT (G : GC) (W : Wi) (f : Env → Res Bool) : TT := fun σ H Q => ∃ H0 F0 fp F r, MS G W.J H0 F0 fp F σ H r ∧ Out G W σ F H (fun F' H' b => Q b H') (f r)
def tA (G : GC) (W : Wi) (f : Env → Res (List D)) : TA := fun σ H Q => ∃ H0 F0 fp F r, MS G W.J H0 F0 fp F σ H r ∧ Out G W σ F H (fun F' H' ds => ∀ vs, RepAll G F' vs ds → Q vs H') (f r)
abbrev RE (X : Cx) (W : Wi) (k : Kd) (e : Expr) (f : Env → Res D) : Prop := PE X e (tE (gOf X) W k f)
abbrev RT (X : Cx) (W : Wi) (e : Expr) (f : Env → Res Bool) : Prop := PT X e (tT (gOf X) W f)
abbrev RA (X : Cx) (W : Wi) (es : List Expr) (f : Env → Res (List D)) : Prop := PA X es (tA (gOf X) W f)
theorem _root_.L2.PE.imp {X : Cx} {e : Expr} {t t' : TE} (h : PE X e t) (i : ∀ σ H Q, t' σ H Q → t σ H Q) : PE X e t' := ⟨fun pins s σ H Q I hw => h.run pins s σ H Q I (i σ H Q hw)⟩
theorem _root_.L2.PT.imp {X : Cx} {e : Expr} {t t' : TT} (h : PT X e t) (i : ∀ σ H Q, t' σ H Q → t σ H Q) : PT X e t' := ⟨fun pins s σ H Q I hw => h.run pins s σ H Q I (i σ H Q hw)⟩
theorem _root_.L2.PW.imp {X : Cx} {e : Expr} {t t' : TT} (h : PW X e t) (i : ∀ σ H Q, t' σ H Q → t σ H Q) : PW X e t' := ⟨fun wh pins s σ H Q I hw => h.run wh pins s σ H Q I (i σ H Q hw)⟩
theorem _root_.L2.PA.imp {X : Cx} {e : List Expr} {t t' : TA} (h : PA X e t) (i : ∀ σ H Q, t' σ H Q → t σ H Q) : PA X e t' := ⟨fun pos pins s σ H Q I hw => h.run pos pins s σ H Q I (i σ H Q hw)⟩
theorem _root_.L2.PS.imp {X : Cx} {e : Stmt} {t t' : TS} (h : PS X e t) (i : ∀ D σ H, t' D σ H → t D σ H) : PS X e t' := ⟨fun pins s σ H D I hw => h.run pins s σ H D I (i D σ H hw)⟩
theorem _root_.L2.PSs.imp {X : Cx} {e : List Stmt} {t t' : TS} (h : PSs X e t) (i : ∀ D σ H, t' D σ H → t D σ H) : PSs X e t' := ⟨fun pins s σ H D I hw => h.run pins s σ H D I (i D σ H hw)⟩
section
variable {G : GC} {J : L2.St → Prop} {W : Wi} {k : Kd} {σ : L2.St} {H F H1 F1 : Hp} {H0 F0 : Hp} {fp : Nat → List Addr} {r : Env} {α β : Type}
theorem Kd.R_of {k : Kd} {H F' H' : Hp} {v : V} {d : D} (hk : k.rd = true) (h : k.Rep G H F' H' v d) : Kd.R.Rep G H F' H' v d := by
  cases k with
  | S => exact Or.inl h
  | R => exact h
  | O s =>
    obtain ⟨A, ow, _⟩ := h
    cases s with
    | sh =>
      cases ow with
      | sh r => exact Or.inl r
      | lst h => cases h
      | tup h => cases h
      | dic h => cases h
      | obj h => cases h
    | flat => exact Or.inr ⟨A, ow⟩
    | parts l => cases hk
    | opts l => cases hk
theorem Kd.Rep.later (s : Fre H H1) : ∀ {k : Kd} {F' H' : Hp} {v : V} {d : D}, k.Rep G H1 F' H' v d → k.Rep G H F' H' v d
  | .S, _, _, _, _, h => h
  | .R, _, _, _, _, h => h
  | .O _, _, _, _, _, ⟨A, h, n⟩ => ⟨A, h, fun a ha => s a (n a ha)⟩
/-- it stays while the heap grows -/
theorem Kd.Rep.grow {H F1 H1 F2 H2 : Hp} (g : Grow F1 H1 F2 H2) : ∀ {k : Kd} {v : V} {d : D}, k.Rep G H F1 H1 v d → k.Rep G H F2 H2 v d
  | .S, _, _, h => Mir.Rep.mono g.f h
  | .R, _, _, .inl h => .inl (Mir.Rep.mono g.f h)
  | .R, _, _, .inr ⟨A, h⟩ => .inr ⟨A, h.grow g⟩
  | .O _, _, _, ⟨A, h, n⟩ => ⟨A, h.grow g, n⟩
theorem Out.grow {P : Hp → Hp → α → Prop} {x : Res α} (h : Out G W σ F H P x) (g : Grow F H F1 H1) : Out G W σ F1 H1 P x := by
  cases x with
  | ok a => exact fun F' H' q => h F' H' (g.trans q)
  | er e => exact fun cls dd F' H' q => h cls dd F' H' (g.trans q)
  | bad => exact h
theorem Out.imp {P P' : Hp → Hp → α → Prop} {x : Res α} (h : Out G W σ F H P x) (i : ∀ F' H' a, Grow F H F' H' → P F' H' a → P' F' H' a) : Out G W σ F H P' x := by
  cases x with
  | ok a => exact fun F' H' q => i F' H' a q (h F' H' q)
  | er e => exact h
  | bad => exact h
/-- behind the first of two -/
theorem Out.bind {P : Hp → Hp → β → Prop} {P1 : Hp → Hp → α → Prop} {x : Res α} {g : α → Res β} (h : Out G W σ F H P (x >>= g)) (i : ∀ F' H' a, Grow F H F' H' → Out G W σ F' H' P (g a) → P1 F' H' a) : Out G W σ F H P1 x := by
  cases x with
  | ok a => exact fun F' H' q => i F' H' a q (Out.grow h q)
  | er e => exact h
  | bad => exact h
theorem Out.val {P : Hp → Hp → α → Prop} {x : Res α} {a : α} (h : Out G W σ F H P x) (e : x = .ok a) (s : Same F H) : P F H a := by
  subst e
  exact h F H (Grow.refl s)
end
section
variable {X : Cx} {W : Wi}
theorem re_var (i : Nat) {x : Str} {pos : Pos} (hN : X.N[i]? = some x := by rfl) (hv : Vis X.env.scope x := by first | exact Or.inl rfl | exact Or.inr (Or.inl rfl) | exact Or.inr (Or.inr rfl)) (hd : (x == ("__debug__" : Str)) = false := by decide)
    (hcd : (x == ("__classdict__" : Str)) = false := by decide) : RE X W .S (.Name x pos) (getS i) := by
  refine (pe_var hN hv hd hcd).imp fun σ H Q ⟨H0, F0, fp, F, r, m, o⟩ => ?_
  cases e : getS i r with
  | ok d =>
    obtain ⟨v, h1, h2⟩ := m.getS e
    exact ⟨v, h1, o.val e m.sub v h2⟩
  | er x => exact (getS_not_er e).elim
  | bad => rw [e] at o; exact o.elim
theorem re_varR (i : Nat) {x : Str} {pos : Pos} (hN : X.N[i]? = some x := by rfl) (hv : Vis X.env.scope x := by first | exact Or.inl rfl | exact Or.inr (Or.inl rfl) | exact Or.inr (Or.inr rfl)) (hd : (x == ("__debug__" : Str)) = false := by decide)
    (hcd : (x == ("__classdict__" : Str)) = false := by decide) : RE X W .R (.Name x pos) (getR i) := by
  refine (pe_var hN hv hd hcd).imp fun σ H Q ⟨H0, F0, fp, F, r, m, o⟩ => ?_
  cases e : getR i r with
  | ok d =>
    obtain ⟨v, h1, h2⟩ := m.getR e
    exact ⟨v, h1, o.val e m.sub v h2⟩
  | er x => exact (getR_not_er e).elim
  | bad => rw [e] at o; exact o.elim
theorem re_cst {e : Expr} {v : V} {d : D} (h : PE X e (tC v)) (r : ∀ F, Rep (gOf X) F v d) : RE X W .S e (fun _ => .ok d) :=
  h.imp fun σ H Q ⟨H0, F0, fp, F, _, m, o⟩ => o F H (Grow.refl m.sub) v (r F)
theorem re_int {i j pos} : RE X W .S (.Constant (.int i) j pos) (fun _ => .ok (.int i)) := re_cst pe_int fun _ => .int i
theorem re_bl {b j pos} : RE X W .S (.Constant (.bool b) j pos) (fun _ => .ok (.bl b)) := re_cst pe_bl fun _ => .bl b
theorem re_non {j pos} : RE X W .S (.Constant .none j pos) (fun _ => .ok .non) := re_cst pe_non fun _ => .non
/-- a shared value, one's own: to be read -/
theorem re_rd {k : Kd} {e : Expr} {f : Env → Res D} (h : RE X W k e f) (hk : k.rd = true := by rfl) : RE X W .R e f :=
  h.imp fun σ H Q ⟨H0, F0, fp, F, r, m, o⟩ => ⟨H0, F0, fp, F, r, m, o.imp fun F' H' d _ p v kr => p v (Kd.R_of hk kr)⟩
/-- one's own is shared -/
theorem re_share {s : Shape} {e : Expr} {f : Env → Res D} (h : RE X W (.O s) e f) : RE X W .S e f :=
  h.imp fun σ H Q ⟨H0, F0, fp, F, r, m, o⟩ => ⟨H0, F0, fp, F, r, m, by
    cases e : f r with
    | ok d =>
      rw [e] at o
      intro F' H' g v ⟨A, ow, n⟩
      refine o (share F' H' A) H' ⟨g.h.share g.sub ow.nt, g.f.trans (share_same g.sub A), share_sub g.sub A, fun a u q => ?_⟩ v (ow.rep g.sub A fun _ z => z)
      by_cases ha : a ∈ A
      · exact .inr (n a ha)
      · rw [share_ne ha] at q
        exact g.new a u q
    | er x => rw [e] at o; exact o
    | bad => rw [e] at o; exact o⟩
theorem ra_nil : RA X W [] (fun _ => .ok []) := pa_nil.imp fun σ H Q ⟨H0, F0, fp, F, r, m, o⟩ => o F H (Grow.refl m.sub) [] .nil
theorem ra_cons {e : Expr} {es : List Expr} {f : Env → Res D} {g : Env → Res (List D)} (he : RE X W .S e f) (hr : RA X W es g) (hs : starEach (e :: es) X.env = (false, eval e X.env) :: starEach es X.env := by rfl) :
    RA X W (e :: es) (fun r => f r >>= fun d => g r >>= fun ds => .ok (d :: ds)) :=
  (pa_cons he hr hs).imp fun σ H Q ⟨H0, F0, fp, F, r, m, o⟩ => ⟨H0, F0, fp, F, r, m, o.bind fun F1 H1 d g1 o1 v kv =>
    ⟨H0, F0, fp, F1, r, m.grow g1, o1.bind fun F2 H2 ds g2 o2 vs rv => o2 F2 H2 (Grow.refl g2.sub) (v :: vs) (.cons (Mir.Rep.mono g2.f kv) rv)⟩⟩
end
/-- what an operation by values is worth -/
def OpD (G : GC) (rr : R2) (k1 k2 k : Kd) (op : D → D → Res D) : Prop := ∀ (F H : Hp) (x y : V) (a b d : D) (Q : VK) (Ha Hb : Hp), Same F H → k1.Rep G Ha F H x a → k2.Rep G Hb F H y b → op a b = .ok d → (∀ v F' H', Grow F H F' H' → k.Rep G H F' H' v d → Q v H') → rr x y H Q
def NoEr2 (op : D → D → Res D) : Prop := ∀ a b e, op a b ≠ .er e
section
variable {X : Cx} {W : Wi} {k1 k2 k : Kd} {a b : Expr} {fa fb : Env → Res D} {pos : Pos} {op : D → D → Res D}
theorem t_op {rr : R2} (h : OpD (gOf X) rr k1 k2 k op) (ne : NoEr2 op) (σ : L2.St) (H : Hp) (Q : VK)
    (t : tE (gOf X) W k (fun r => fa r >>= fun x => fb r >>= fun y => op x y) σ H Q) : tOp rr (tE (gOf X) W k1 fa) (tE (gOf X) W k2 fb) σ H Q := by
  obtain ⟨H0, F0, fp, F, r, m, o⟩ := t
  refine ⟨H0, F0, fp, F, r, m, o.bind fun F1 H1 d g1 o1 v kv => ⟨H0, F0, fp, F1, r, m.grow g1, o1.bind fun F2 H2 e g2 o2 u ku => ?_⟩⟩
  cases z : op d e with
  | ok w =>
    rw [z] at o2
    exact h F2 H2 v u d e w Q _ _ g2.sub (kv.grow g2) ku z fun v' F' H' g kr => o2 F' H' g v' (kr.later (g1.h.trans g2.h).fre)
  | er x => exact (ne _ _ _ z).elim
  | bad => rw [z] at o2; exact o2.elim
theorem re_op {o : Operator} {rr : R2} (ho : OpR X (binaryOp o) rr) (h : OpD (gOf X) rr k1 k2 k op) (ne : NoEr2 op) (ha : RE X W k1 a fa) (hb : RE X W k2 b fb) :
    RE X W k (.BinOp a o b pos) (fun r => fa r >>= fun x => fb r >>= fun y => op x y) := (pe_op ho ha hb).imp (t_op h ne)
theorem re_cmp {o : CmpOp} {rr : R2} (ho : OpR X (compareOp o) rr) (h : OpD (gOf X) rr k1 k2 k op) (ne : NoEr2 op) (ha : RE X W k1 a fa) (hb : RE X W k2 b fb) (hm : behindInMarks o b = false) :
    RE X W k (.Compare a [o] [b] pos) (fun r => fa r >>= fun x => fb r >>= fun y => op x y) := (pe_cmpR ho ha hb hm).imp (t_op h ne)
end
end Mir
namespace Mir
open PySem PySem.Spec PyProof.Rows L2
variable [Tn]
/-- how a block ends -/
inductive Oc where
  | nx (r : Env) | rt (d : D) | bk (r : Env) | ct (r : Env) | er (e : D) (r : Env) | bad
def Oc.seq (o : Oc) (g : Env → Oc) : Oc := match o with
  | .nx r => g r
  | o => o
@[simp] theorem nx_seq (r : Env) (g : Env → Oc) : (Oc.nx r).seq g = g r := rfl
@[simp] theorem rt_seq (d : D) (g : Env → Oc) : (Oc.rt d).seq g = .rt d := rfl
@[simp] theorem bk_seq (r : Env) (g : Env → Oc) : (Oc.bk r).seq g = .bk r := rfl
@[simp] theorem ct_seq (r : Env) (g : Env → Oc) : (Oc.ct r).seq g = .ct r := rfl
@[simp] theorem er_seq (e : D) (r : Env) (g : Env → Oc) : (Oc.er e r).seq g = .er e r := rfl
@[simp] theorem bad_seq (g : Env → Oc) : Oc.bad.seq g = .bad := rfl
/-- an expression ahead of the rest -/
def lift {α : Type} (x : Res α) (r : Env) (g : α → Oc) : Oc := match x with
  | .ok a => g a
  | .er e => .er e r
  | .bad => .bad
@[simp] theorem lift_ok {α : Type} (a : α) (r : Env) (g : α → Oc) : lift (.ok a) r g = g a := rfl
@[simp] theorem lift_er {α : Type} (e : D) (r : Env) (g : α → Oc) : lift (.er e : Res α) r g = .er e r := rfl
@[simp] theorem lift_bad {α : Type} (r : Env) (g : α → Oc) : lift (.bad : Res α) r g = .bad := rfl
/-- the names behind a target -/
def into (x : Res Env) : Oc := match x with
  | .ok r => .nx r
  | _ => .bad
@[simp] theorem into_ok (r : Env) : into (.ok r) = .nx r := rfl
/-- what is due behind a statement -/
def OutS (G : GC) (W : Wi) (k : Kd) (H0 F0 F : Hp) (D : Ends) : Oc → Prop
  | .nx r => ∀ fp F' σ' H', Same F F' → MS G W.J H0 F0 fp F' σ' H' r → D.nx σ' H'
  | .rt d => ∀ F' H' v, Same F F' → Grow F0 H0 F' H' → k.Rep G H0 F' H' v d → D.rt v H'
  | .bk r => ∀ fp F' σ' H', Same F F' → MS G W.J H0 F0 fp F' σ' H' r → D.bk σ' H'
  | .ct r => ∀ fp F' σ' H', Same F F' → MS G W.J H0 F0 fp F' σ' H' r → D.ct σ' H'
  | .er e r => ∀ fp F' σ' H' cls dd, Same F F' → MS G W.J H0 F0 fp F' σ' H' r → ExcIs G F' cls dd e → W.w cls dd σ' H'
  | .bad => False
def tS (G : GC) (W : Wi) (k : Kd) (g : Env → Oc) : TS := fun D σ H => ∃ H0 F0 fp F r, MS G W.J H0 F0 fp F σ H r ∧ OutS G W k H0 F0 F D (g r)
abbrev RS (X : Cx) (W : Wi) (k : Kd) (s : Stmt) (g : Env → Oc) : Prop := PS X s (tS (gOf X) W k g)
abbrev RSs (X : Cx) (W : Wi) (k : Kd) (s : List Stmt) (g : Env → Oc) : Prop := PSs X s (tS (gOf X) W k g)
section
variable {G : GC} {W : Wi} {k : Kd} {σ : L2.St} {H F F1 : Hp} {H0 F0 : Hp} {fp : Nat → List Addr} {r : Env} {D : Ends}
theorem MS.g0 {J : L2.St → Prop} (m : MS G J H0 F0 fp F σ H r) : Grow F0 H0 F H := ⟨m.s0, m.f0, m.sub, m.new⟩
theorem OutS.same {o : Oc} (h : OutS G W k H0 F0 F D o) (s : Same F F1) : OutS G W k H0 F0 F1 D o := by
  cases o with
  | nx r => exact fun fp F' σ' H' q m => h fp F' σ' H' (s.trans q) m
  | rt d => exact fun F' H' v q g kr => h F' H' v (s.trans q) g kr
  | bk r => exact fun fp F' σ' H' q m => h fp F' σ' H' (s.trans q) m
  | ct r => exact fun fp F' σ' H' q m => h fp F' σ' H' (s.trans q) m
  | er e r => exact fun fp F' σ' H' cls dd q m x => h fp F' σ' H' cls dd (s.trans q) m x
  | bad => exact h
/-- the first of two -/
theorem OutS.seq {o : Oc} {g : Env → Oc} (h : OutS G W k H0 F0 F D (o.seq g)) : OutS G W k H0 F0 F { D with nx := tS G W k g D } o := by
  cases o with
  | nx r => exact fun fp F' σ' H' q m => ⟨H0, F0, fp, F', r, m, h.same q⟩
  | rt d => exact h
  | bk r => exact h
  | ct r => exact h
  | er e r => exact h
  | bad => exact h
/-- an expression ahead -/
theorem OutS.lift {α : Type} {x : Res α} {g : α → Oc} {P : Hp → Hp → α → Prop} (m : MS G W.J H0 F0 fp F σ H r) (h : OutS G W k H0 F0 F D (lift x r g)) (i : ∀ F' H' a, Grow F H F' H' → OutS G W k H0 F0 F' D (g a) → P F' H' a) : Out G W σ F H P x := by
  cases x with
  | ok a => exact fun F' H' gr => i F' H' a gr (OutS.same h gr.f)
  | er e => exact fun cls dd F' H' gr x => h fp F' σ H' cls dd gr.f (m.grow gr) x
  | bad => exact h
end
section
variable {X : Cx} {W : Wi} {k : Kd}
theorem rss_nil : RSs X W k [] (fun r => .nx r) := pss_nil.imp fun D σ H ⟨H0, F0, fp, F, r, m, o⟩ => o fp F σ H (Same.refl _) m
theorem rss_cons {s : Stmt} {ss : List Stmt} {g1 g2 : Env → Oc} (h1 : RS X W k s g1) (h2 : RSs X W k ss g2) : RSs X W k (s :: ss) (fun r => (g1 r).seq g2) :=
  (pss_cons h1 h2).imp fun D σ H ⟨H0, F0, fp, F, r, m, o⟩ => ⟨H0, F0, fp, F, r, m, o.seq⟩
theorem rss_one {s : Stmt} {g : Env → Oc} (h1 : RS X W k s g) : RSs X W k [s] g := pss_one h1
/-- names that one owns are shared ahead of a statement -/
theorem rs_freeze (i : Nat) {s : Stmt} {g : Env → Oc} (h : RS X W k s g) : RS X W k s (fun r => g (freeze i r)) :=
  h.imp fun D σ H ⟨H0, F0, fp, F, r, m, o⟩ => let ⟨F', s, m'⟩ := m.freeze i; ⟨H0, F0, fp, F', _, m', o.same s⟩
theorem rs_if {c : Expr} {a b : List Stmt} {pos : Pos} {f : Env → Res Bool} {ga gb : Env → Oc} (hc : RT X W c f) (ha : RSs X W k a ga) (hb : RSs X W k b gb) :
    RS X W k (.If c a b pos) (fun r => lift (f r) r fun t => if t = true then ga r else gb r) :=
  (ps_if hc ha hb).imp fun D σ H ⟨H0, F0, fp, F, r, m, o⟩ => ⟨H0, F0, fp, F, r, m, o.lift m fun F' H' t g o' => by
    cases t with
    | true => exact ⟨H0, F0, fp, F', r, m.grow g, o'⟩
    | false => exact ⟨H0, F0, fp, F', r, m.grow g, o'⟩⟩
theorem rs_ret {e : Expr} {pos : Pos} {f : Env → Res D} (he : RE X W k e f) : RS X W k (.Return (some e) pos) (fun r => lift (f r) r fun d => .rt d) :=
  (ps_ret he).imp fun D σ H ⟨H0, F0, fp, F, r, m, o⟩ => ⟨H0, F0, fp, F, r, m, o.lift m fun F' H' d g o' v kv => o' F' H' v (Same.refl _) (m.grow g).g0 (kv.later m.s0.fre)⟩
theorem jset {i j : Nat} {v0 : Option (Option V)} (h : i ≠ j) : ∀ (σ : L2.St) (v : Option V), σ[j]? = v0 → (σ.set i v)[j]? = v0 := fun σ v e => (List.getElem?_set_ne h).trans e
/-- the names of a def that got a lambda: the third holds it, from the sixth on stands what it captured -/
def PinsF (gs : List Nat) (f : Addr) (ws : List V) (τ : L2.St) : Prop := τ[2]? = some (some (.ref f)) ∧ gs.map (fun j => τ[j]?) = ws.map (fun v => some (some v)) ∧ ∀ j ∈ gs, 6 ≤ j
theorem jfn {i : Nat} {gs : List Nat} {f : Addr} {ws : List V} (h : i ≠ 2 ∧ i < 6) : ∀ (σ : L2.St) (v : Option V), PinsF gs f ws σ → PinsF gs f ws (σ.set i v) := fun σ v ⟨a, b, c⟩ => by
  refine ⟨(List.getElem?_set_ne h.1).trans a, ?_, c⟩
  rw [← b]
  exact List.map_congr_left fun j hj => List.getElem?_set_ne (by have := c j hj; omega)
def tGd (G : GC) (J : L2.St → Prop) (g : D → Env → Res Env) : TG := fun v σ H Q => ∃ H0 F0 fp F r d, MS G J H0 F0 fp F σ H r ∧ Rep G F v d ∧ ∃ r', g d r = .ok r' ∧ ∀ fp' σ', MS G J H0 F0 fp' F σ' H r' → Q σ' H
def tGds (G : GC) (J : L2.St → Prop) (g : List D → Env → Res Env) : TGs := fun vs σ H Q => ∃ H0 F0 fp F r ds, MS G J H0 F0 fp F σ H r ∧ RepAll G F vs ds ∧ ∃ r', g ds r = .ok r' ∧ ∀ fp' σ', MS G J H0 F0 fp' F σ' H r' → Q σ' H
abbrev RG (X : Cx) (J : L2.St → Prop) (tg : Expr) (g : D → Env → Res Env) : Prop := PG X tg (tGd (gOf X) J g)
abbrev RGs (X : Cx) (J : L2.St → Prop) (tg : List Expr) (g : List D → Env → Res Env) : Prop := PGs X tg (tGds (gOf X) J g)
theorem PG.imp {e : Expr} {t t' : TG} (h : PG X e t) (i : ∀ v σ H Q, t' v σ H Q → t v σ H Q) : PG X e t' := ⟨fun pins s σ H v u Q I r hw => h.run pins s σ H v u Q I r (i v σ H Q hw)⟩
theorem PGs.imp {e : List Expr} {t t' : TGs} (h : PGs X e t) (i : ∀ v σ H Q, t' v σ H Q → t v σ H Q) : PGs X e t' := ⟨fun pins s σ H v u Q I r hw => h.run pins s σ H v u Q I r (i v σ H Q hw)⟩
theorem rg_name {J : L2.St → Prop} (i : Nat) {x : Str} {pos : Pos} (hN : X.N.Nodup) (hJ : ∀ σ v, J σ → J (σ.set i v) := by first | exact fun _ _ h => h | exact jset (by decide) | exact jfn (by decide)) (hi : X.N[i]? = some x := by rfl) (hx : Loc X.env.scope x := by first | exact Or.inl rfl | exact Or.inr rfl) (hf : X.fn x = true ∨ X.env.scope.names.lookup x = some .local := by first | exact .inl rfl | exact .inr rfl) :
    RG X J (.Name x pos) (fun d r => .ok (r.set i (.sh d))) :=
  PG.imp (pg_name hN hi hx hf) fun v σ H Q ⟨H0, F0, fp, F, r, d, m, rv, r', e, q⟩ => by
    cases e
    exact q fp _ (m.setS i rv hJ)
theorem rgs_nil {J : L2.St → Prop} : RGs X J [] (fun ds r => match ds with
    | [] => .ok r
    | _ => .bad) :=
  PGs.imp pgs_nil fun vs σ H Q ⟨H0, F0, fp, F, r, ds, m, rv, r', e, q⟩ => by
    cases rv with
    | nil => cases e; exact ⟨rfl, q fp σ m⟩
    | cons _ _ => cases e
theorem rgs_cons {J : L2.St → Prop} {e : Expr} {es : List Expr} {g : D → Env → Res Env} {gs : List D → Env → Res Env} (h1 : RG X J e g) (h2 : RGs X J es gs) (hs : (assignEach (e :: es) X.env).map (·.2) = assign e X.env :: (assignEach es X.env).map (·.2) := by rfl) :
    RGs X J (e :: es) (fun ds r => match ds with
    | d :: ds => g d r >>= fun r' => gs ds r'
    | [] => .bad) :=
  PGs.imp (pgs_cons h1 h2 hs) fun vs σ H Q ⟨H0, F0, fp, F, r, ds, m, rv, r', e, q⟩ => by
    cases rv with
    | nil => cases e
    | @cons v d vs ds rv rr =>
      have e' : (g d r >>= fun r' => gs ds r') = .ok r' := e
      cases e1 : g d r with
      | ok r1 =>
        rw [e1] at e'
        exact ⟨v, vs, rfl, H0, F0, fp, F, r, d, m, rv, r1, e1, fun fp1 σ1 m1 => ⟨H0, F0, fp1, F, r1, ds, m1, rr, r', e', q⟩⟩
      | er x => rw [e1] at e'; cases e'
      | bad => rw [e1] at e'; cases e'
theorem rg_tup {J : L2.St → Prop} {es : List Expr} {kk : Nat} {pos : Pos} {gs : List D → Env → Res Env} {n : Nat} (hc : X.calm = true) (h : RGs X J es gs) (hn : (assignEach es X.env).length = n := by rfl) (hst : (assignEach es X.env).findIdx? (·.1) = none := by rfl) :
    RG X J (.Tuple es kk pos) (fun d r => match d with
    | .tup ds => if ds.length = n then gs ds r else .bad
    | _ => .bad) :=
  PG.imp (pg_tup hc h hn hst) fun v σ H Q ⟨H0, F0, fp, F, r, d, m, rv, r', e, q⟩ => by
    cases rv with
    | @tup a vs ds sq ra =>
      have e' : (if ds.length = n then gs ds r else .bad) = .ok r' := e
      split at e'
      · rename_i hl
        exact ⟨a, vs, rfl, Same.sqT m.sub sq, by rw [ra.length]; exact hl, H0, F0, fp, F, r, ds, m, ra, r', e', q⟩
      · cases e'
    | _ => cases e
theorem t_asg {e : Expr} {te : TE} {f : Env → Res D} {g : D → Env → Res Env} {D : Ends} {σ : L2.St} {H : Hp}
    (t : tS (gOf X) W k (fun r => lift (f r) r fun d => into (g d r)) D σ H) : tAsg (tE (gOf X) W .S f) (tGd (gOf X) W.J g) D σ H := by
  obtain ⟨H0, F0, fp, F, r, m, o⟩ := t
  refine ⟨H0, F0, fp, F, r, m, o.lift m fun F' H' d gr o' v kv => ?_⟩
  cases e1 : g d r with
  | ok r1 =>
    rw [e1] at o'
    exact ⟨H0, F0, fp, F', r, d, m.grow gr, kv, r1, e1, fun fp' σ' m' => o' fp' F' σ' H' (Same.refl _) m'⟩
  | er x => rw [e1] at o'; exact o'.elim
  | bad => rw [e1] at o'; exact o'.elim
theorem rs_asg {tg e : Expr} {pos : Pos} {f : Env → Res D} {g : D → Env → Res Env} (he : RE X W .S e f) (hg : RG X W.J tg g) (hs : swapsWithSole [tg] e pos.line X.env = pure false := by rfl) (hw : swappedStores [tg] e X.env = pure none := by rfl)
    (h1 : (assignEach [tg] X.env).map (·.2) = [assign tg X.env] := by rfl) : RS X W k (.Assign [tg] e pos) (fun r => lift (f r) r fun d => into (g d r)) :=
  (ps_asg he hg hs hw h1).imp fun D σ H t => t_asg (e := e) (te := tE (gOf X) W .S f) t
theorem rs_set (i : Nat) {x : Str} {e : Expr} {pos pos' : Pos} {f : Env → Res D} (hN : X.N.Nodup) (he : RE X W .S e f) (hJ : ∀ σ v, W.J σ → W.J (σ.set i v) := by first | exact fun _ _ h => h | exact jset (by decide) | exact jfn (by decide)) (hi : X.N[i]? = some x := by rfl) (hx : Loc X.env.scope x := by first | exact Or.inl rfl | exact Or.inr rfl)
    (hs : swapsWith e (some (.Name x pos')) pos.line X.env = pure false := by rfl) (hf : X.fn x = true ∨ X.env.scope.names.lookup x = some .local := by first | exact .inl rfl | exact .inr rfl) :
    RS X W k (.Assign [.Name x pos'] e pos) (fun r => lift (f r) r fun d => .nx (r.set i (.sh d))) :=
  (ps_set hN hi hx he hs hf).imp fun D σ H ⟨H0, F0, fp, F, r, m, o⟩ => ⟨H0, F0, fp, F, r, m, o.lift m fun F' H' d gr o' v kv => o' fp F' _ H' (Same.refl _) ((m.grow gr).setS i kv hJ)⟩
theorem MS.setNew {G : GC} {J : L2.St → Prop} {H0 F0 F H F' H' : Hp} {fp : Nat → List Addr} {σ : L2.St} {r : Env} (m : MS G J H0 F0 fp F σ H r) (gr : Grow F H F' H') {v : V} {d : D} {s : Shape} (i : Nat) (kv : (Kd.O s).Rep G H F' H' v d) (hJ : ∀ σ v, J σ → J (σ.set i v)) :
    ∃ fp', MS G J H0 F0 fp' F' (σ.set i (some v)) H' (r.set i (.ow s d)) := by
  obtain ⟨A, ow, n⟩ := kv
  refine ⟨_, (m.grow gr).setO i ow (fun a ha => m.s0.free (n a ha)) (fun j t e ne h a ha hb => ?_) hJ⟩
  obtain ⟨⟨w, _, o2⟩, _⟩ := m.ow j t e h
  obtain ⟨_, u, z⟩ := o2.there a hb
  rw [n a ha] at z
  cases z
/-- name = a thing of one's own -/
theorem rs_setO (i : Nat) {s : Shape} {x : Str} {e : Expr} {pos pos' : Pos} {f : Env → Res D} (hN : X.N.Nodup) (he : RE X W (.O s) e f) (hJ : ∀ σ v, W.J σ → W.J (σ.set i v) := by first | exact fun _ _ h => h | exact jset (by decide) | exact jfn (by decide)) (hi : X.N[i]? = some x := by rfl) (hx : Loc X.env.scope x := by first | exact Or.inl rfl | exact Or.inr rfl)
    (hs : swapsWith e (some (.Name x pos')) pos.line X.env = pure false := by rfl) (hf : X.fn x = true ∨ X.env.scope.names.lookup x = some .local := by first | exact .inl rfl | exact .inr rfl) :
    RS X W k (.Assign [.Name x pos'] e pos) (fun r => lift (f r) r fun d => .nx (r.set i (.ow s d))) :=
  (ps_set hN hi hx he hs hf).imp fun D σ H ⟨H0, F0, fp, F, r, m, o⟩ => ⟨H0, F0, fp, F, r, m, o.lift m fun F' H' d gr o' v kv =>
    let ⟨fp', m'⟩ := m.setNew gr i kv hJ
    o' fp' F' _ H' (Same.refl _) m'⟩
end
/-- from the heap B on J walks the data ds, their parts in F -/
structure WalkD (G : GC) (F B : Hp) (J : It) (ds : List D) : Prop where
  goes : ∀ i H, i < ds.length → Same B H → J.go i H
  stops : ∀ H, Same B H → J.stop ds.length H
  yields : ∀ (i : Nat) F2 H2 x H3, i < ds.length → Same F F2 → Same F2 H2 → Same B H2 → J.yld i H2 x H3 → ∃ F3 d, Grow F2 H2 F3 H3 ∧ ds[i]? = some d ∧ Rep G F3 x d
def tI (G : GC) (W : Wi) (b : Bool) (f : Env → Res (List D)) : TI := fun σ H R => ∃ H0 F0 fp F r, MS G W.J H0 F0 fp F σ H r ∧ Out G W σ F H (fun F' H' ds => ∀ J, WalkD G F' (if b = true then F' else nT H') J ds → R J H') (f r)
/-- what a for walks: b: it stands in the shared part -/
abbrev RI (X : Cx) (W : Wi) (b : Bool) (tg iter : Expr) (f : Env → Res (List D)) : Prop := PI X tg iter (tI (gOf X) W b f)
def forD (f : D → Env → Oc) : List D → Env → Oc
  | [], r => .nx r
  | d :: ds, r => match f d r with
    | .nx r' => forD f ds r'
    | .ct r' => forD f ds r'
    | .bk r' => .nx r'
    | o => o
@[simp] theorem forD_nil (f : D → Env → Oc) (r : Env) : forD f [] r = .nx r := rfl
theorem forD_cons (f : D → Env → Oc) (d : D) (ds : List D) (r : Env) : forD f (d :: ds) r = match f d r with
    | .nx r' => forD f ds r'
    | .ct r' => forD f ds r'
    | .bk r' => .nx r'
    | o => o := rfl
section
variable {X : Cx} {W : Wi} {k : Kd}
theorem rs_for {tg iter : Expr} {body : List Stmt} {pos : Pos} {f : Env → Res (List D)} {g : D → Env → Res Env} {gb : Env → Oc} (hp : PassesOwn (model X.prog X.w) X.A X.env X.xe) (hc : X.calm = true) (hi : RI X W true tg iter f) (hg : RG X W.J tg g) (hb : RSs X W k body gb)
    (hs : ∀ x, foldedSetIterable iter X.env x = pure x := by intro _; rfl) : RS X W k (.For tg iter body [] pos) (fun r => lift (f r) r fun ds => forD (fun d r => (into (g d r)).seq gb) ds r) :=
  (ps_for hp hc hi hg hb hs).imp fun D σ H ⟨H0, F0, fp, F, r, m, o⟩ => ⟨H0, F0, fp, F, r, m, o.lift m fun F1 H1 ds gr o1 J w => by
    rw [if_pos rfl] at w
    refine ⟨fun i n σ H => n = ds.length - i ∧ i ≤ ds.length ∧ ∃ fp F r, Same F1 F ∧ MS (gOf X) W.J H0 F0 fp F σ H r ∧ OutS (gOf X) W k H0 F0 F D (forD (fun d r => (into (g d r)).seq gb) (ds.drop i) r),
      ⟨ds.length, by simp, Nat.zero_le _, fp, F1, r, Same.refl _, m.grow gr, by simpa using o1⟩, ?_⟩
    rintro i n σ H ⟨rfl, hi, fp, F, r, sF, m, o⟩
    by_cases hlt : i < ds.length
    · refine .inr ⟨w.goes i H hlt (sF.trans m.sub), fun σ' H' => i + 1 ≤ ds.length ∧ ∃ fp F r, Same F1 F ∧ MS (gOf X) W.J H0 F0 fp F σ' H' r ∧ OutS (gOf X) W k H0 F0 F D (forD (fun d r => (into (g d r)).seq gb) (ds.drop (i + 1)) r),
        fun σ' H' ⟨h1, h2⟩ => ⟨ds.length - (i + 1), by omega, rfl, h1, h2⟩, fun x H' y => ?_⟩
      obtain ⟨F3, d, g3, ed, rx⟩ := w.yields i F H x H' hlt sF m.sub (sF.trans m.sub) y
      have e : ds.drop i = d :: ds.drop (i + 1) := by
        rw [List.drop_eq_getElem_cons hlt]
        rw [List.getElem?_eq_getElem hlt] at ed
        rw [Option.some.inj ed]
      rw [e, forD_cons] at o
      cases e1 : g d r with
      | ok r1 =>
        rw [e1] at o
        refine ⟨H0, F0, fp, F3, r, d, m.grow g3, rx, r1, e1, fun fp' σ' m' => ⟨H0, F0, fp', F3, r1, m', ?_⟩⟩
        have o' : OutS (gOf X) W k H0 F0 F3 D _ := OutS.same o g3.f
        simp only [into_ok, nx_seq] at o'
        cases e2 : gb r1 with
        | nx r2 => rw [e2] at o'; exact fun fp2 F2 σ2 H2 q m2 => ⟨hlt, fp2, F2, r2, (sF.trans g3.f).trans q, m2, o'.same q⟩
        | ct r2 => rw [e2] at o'; exact fun fp2 F2 σ2 H2 q m2 => ⟨hlt, fp2, F2, r2, (sF.trans g3.f).trans q, m2, o'.same q⟩
        | bk r2 => rw [e2] at o'; exact o'
        | rt d2 => rw [e2] at o'; exact o'
        | er x2 r2 => rw [e2] at o'; exact o'
        | bad => rw [e2] at o'; exact o'
      | er x2 => rw [e1] at o; exact o.elim
      | bad => rw [e1] at o; exact o.elim
    · have e : i = ds.length := by omega
      subst e
      rw [List.drop_length] at o
      exact .inl ⟨w.stops H (sF.trans m.sub), o fp F σ H (Same.refl _) m⟩⟩
/-- a while of at most so many turns -/
def whileD (c : Env → Res Bool) (b : Env → Oc) : Nat → Env → Oc
  | 0, _ => .bad
  | n + 1, r => lift (c r) r fun t => if t = true then (match b r with
    | .nx r' => whileD c b n r'
    | .ct r' => whileD c b n r'
    | .bk r' => .nx r'
    | o => o) else .nx r
theorem rs_while {c : Expr} {body : List Stmt} {pos : Pos} {f : Env → Res Bool} {gb : Env → Oc} (hp : PassesOwn (model X.prog X.w) X.A X.env X.xe) (hc : RT X W c f) (hb : RSs X W k body gb) (N : Env → Nat) :
    RS X W k (.While c body [] pos) (fun r => whileD f gb (N r) r) :=
  (ps_while hp hc hb).imp fun D σ H ⟨H0, F0, fp, F, r, m, o⟩ => by
    refine ⟨fun n σ H => ∃ fp F' r, Same F F' ∧ MS (gOf X) W.J H0 F0 fp F' σ H r ∧ OutS (gOf X) W k H0 F0 F' D (whileD f gb n r), ⟨N r, fp, F, r, Same.refl _, m, o⟩, ?_⟩
    rintro n σ H ⟨fp, F1, r, s, m, o⟩
    cases n with
    | zero => exact o.elim
    | succ n =>
      refine ⟨H0, F0, fp, F1, r, m, OutS.lift m (show OutS (gOf X) W k H0 F0 F1 D (lift (f r) r _) from o) fun F2 H2 t g o2 => ?_⟩
      cases t with
      | false => exact o2 fp F2 σ H2 (Same.refl _) (m.grow g)
      | true =>
        rw [if_pos rfl]
        rw [if_pos rfl] at o2
        refine ⟨fun σ' H' => ∃ fp F' r, Same F F' ∧ MS (gOf X) W.J H0 F0 fp F' σ' H' r ∧ OutS (gOf X) W k H0 F0 F' D (whileD f gb n r), fun σ' H' q => ⟨n, Nat.lt_succ_self _, q⟩, H0, F0, fp, F2, r, m.grow g, ?_⟩
        cases e2 : gb r with
        | nx r2 => rw [e2] at o2; exact fun fp2 F3 σ2 H3 q m2 => ⟨fp2, F3, r2, (s.trans g.f).trans q, m2, o2.same q⟩
        | ct r2 => rw [e2] at o2; exact fun fp2 F3 σ2 H3 q m2 => ⟨fp2, F3, r2, (s.trans g.f).trans q, m2, o2.same q⟩
        | bk r2 => rw [e2] at o2; exact o2
        | rt d2 => rw [e2] at o2; exact o2
        | er x2 r2 => rw [e2] at o2; exact o2
        | bad => rw [e2] at o2; exact o2
end
end Mir
namespace Mir
open PySem PySem.Spec PyProof.Rows L2
variable [Tn]
/-- what a call is to leave -/
def OutC (G : GC) (E : XK) {α : Type} (F H : Hp) (P : Hp → Hp → α → Prop) : Res α → Prop
  | .ok a => ∀ F' H', Grow F H F' H' → P F' H' a
  | .er e => ∀ cls dd F' H', Grow F H F' H' → ExcIs G F' cls dd e → E cls dd H'
  | .bad => False
/-- the promise of a def of worth g -/
def spM (G : GC) (k : Kd) (g : List D → Res D) : Sp := fun vs H Q E => ∃ F ds, Same F H ∧ Tt F H ∧ RepAll G F vs ds ∧ OutC G E F H (fun F' H' d => ∀ v, k.Rep G H F' H' v d → Q v H') (g ds)
/-- the promise of an __init__: it makes of the arguments the object -/
def spI (G : GC) (c : Nat) (g : List D → Res D) : Sp := fun vs H Q E => ∃ (x dx : Addr) (vs' : List V) (F H0 : Hp) (ds : List D), vs = .ref x :: vs' ∧ H x = some (.ins (G.ca c) dx []) ∧ Same H0 H ∧ H0 x = none ∧ Same F H0 ∧ Tt F H0 ∧ RepAll G F vs' ds ∧
  OutC G E F H0 (fun F' H' d => Rep G F' (.ref x) d → Q .non H') (g ds)
def startD (n : Nat) (ds : List D) : Env := ds.map .sh ++ List.replicate (n - ds.length) .un
/-- a body's worth -/
def runD (p n : Nat) (g : Env → Oc) (ds : List D) : Res D := if ds.length = p then (match g (startD n ds) with
  | .rt d => .ok d
  | .nx _ => .ok .non
  | .er e _ => .er e
  | _ => .bad) else .bad
def runO (p n : Nat) (g : Env → Oc) (ds : List D) : Res D := if ds.length = p then (match g (startD n ds) with
  | .rt d => .ok d
  | .er e _ => .er e
  | _ => .bad) else .bad
def startI (n c : Nat) (ds : List D) : Env := .ow .flat (.obj c []) :: startD (n - 1) ds
def selfR (r : Env) : Res D := match r[0]? with
  | some (Slot.sh d) => .ok d
  | some (Slot.ow _ d) => .ok d
  | _ => .bad
/-- the worth of an __init__ -/
def runI (p n c : Nat) (g : Env → Oc) (ds : List D) : Res D := if ds.length = p then (match g (startI n c ds) with
  | .nx r => selfR r
  | .er e _ => .er e
  | _ => .bad) else .bad
section
variable {G : GC}
theorem startD_un {n : Nat} {ds : List D} {i : Nat} {s : Slot} (h : (startD n ds)[i]? = some s) : (∃ d, ds[i]? = some d ∧ s = .sh d) ∨ s = .un := by
  unfold startD at h
  by_cases hi : i < ds.length
  · rw [List.getElem?_append_left (by simpa using hi), List.getElem?_map] at h
    cases e : ds[i]? with
    | none => rw [e] at h; cases h
    | some d => rw [e] at h; cases h; exact .inl ⟨d, rfl, rfl⟩
  · rw [List.getElem?_append_right (by simpa using hi), List.getElem?_replicate] at h
    split at h
    · cases h; exact .inr rfl
    · cases h
theorem start_at {N : List Str} {vs : List V} {i : Nat} {v : V} (h : vs[i]? = some v) : (L2.start N vs)[i]? = some (some v) := by
  have hi : i < vs.length := (List.getElem?_eq_some_iff.mp h).1
  unfold L2.start
  rw [List.getElem?_append_left (by simpa using hi), List.getElem?_map, h]
  rfl
theorem ms_start {F H : Hp} {N : List Str} {vs : List V} {ds : List D} (s : Same F H) (tt : Tt F H) (r : RepAll G F vs ds) : MS G (fun _ => True) H F (fun _ => []) F (L2.start N vs) H (startD N.length ds) where
  jo := trivial
  s0 := Stays.refl
  f0 := Same.refl _
  sub := s
  new := fun _ _ e => .inl e
  len := by
    unfold L2.start startD
    have := r.length
    simp only [List.length_append, List.length_map, List.length_replicate]
    omega
  sh := fun i d e => by
    rcases startD_un e with ⟨d', e1, e2⟩ | e2
    · cases e2
      obtain ⟨v, h1, h2⟩ := r.get e1
      exact ⟨v, start_at h1, h2⟩
    · cases e2
  ow := fun i s d e => by
    rcases startD_un e with ⟨_, _, z⟩ | z <;> cases z
  t0 := tt
  ap := fun i j s t d e _ h1 _ => by
    rcases startD_un h1 with ⟨_, _, z⟩ | z <;> cases z
end
section
variable {P : Program} {w : World} {K : PySem.W.Frag} {mg : Str → Option Value} {base : Heap}
abbrev WD (E : XK) : Wi := ⟨fun cls d _ H => E cls d H, fun _ => True⟩
theorem spM_len {G : GC} {k : Kd} {n : Nat} {g : List D → Res D} (hg : ∀ ds, ds.length ≠ n → g ds = .bad) : ∀ vs H Q E, spM G k g vs H Q E → vs.length = n := fun vs H Q E ⟨F, ds, _, _, r, o⟩ => by
  by_cases h : ds.length = n
  · rw [r.length]; exact h
  · rw [hg ds h] at o; exact o.elim
/-- A DEF by its body (what it gives is shared) -/
theorem fn_ok {x qual : Str} {st : Stmt} {f : Addr} {fd : FuncData} {N ps : List Str} {k : Nat} {g : Env → Oc} (F : Fun K x qual st f fd) (S : FnScope N ps (defScope st))
    (hb : ∀ (cdv : Value) (A : Around) (outer : List PySem.Env) (s : Shared) (H : Hp) (E : XK), Room k (A.deeper (envOfC qual (defScope st) s.heap.objs.size f cdv)) →
      RSs (cxOf (L2.CX P w) P w K mg base N qual (defScope st) f cdv A outer s H E) (WD E) .S (defBody st) g) : FnOk P w K mg base (L2.CX P w) (k + 1) f fd ps (spM ⟨P, w, K, mg⟩ .S (runD ps.length N.length g)) := by
  refine F.okX S (spM_len fun ds h => if_neg h) fun cdv A outer s H vs Q E hr ⟨F0, ds, s0, tt, r, o⟩ => ⟨_, hb cdv A outer s H E hr, H, F0, _, F0, _, ms_start s0 tt r, ?_⟩
  unfold runD at o
  split at o
  case isFalse => exact o.elim
  cases e : g (startD N.length ds) with
  | nx r' =>
    rw [e] at o
    exact fun fp F' σ' H' _ m => o F' H' m.g0 .non .non
  | rt d =>
    rw [e] at o
    exact fun F' H' v _ gr kr => o F' H' gr v kr
  | er x r' =>
    rw [e] at o
    exact fun fp F' σ' H' cls dd _ m ex => o cls dd F' H' m.g0 ex
  | bk r' => rw [e] at o; exact o.elim
  | ct r' => rw [e] at o; exact o.elim
  | bad => rw [e] at o; exact o.elim
/-- .. what it gives is the caller's own -/
theorem fn_okO {x qual : Str} {st : Stmt} {f : Addr} {fd : FuncData} {N ps : List Str} {k : Nat} {g : Env → Oc} {sp : Shape} (F : Fun K x qual st f fd) (S : FnScope N ps (defScope st))
    (hb : ∀ (cdv : Value) (A : Around) (outer : List PySem.Env) (s : Shared) (H : Hp) (E : XK), Room k (A.deeper (envOfC qual (defScope st) s.heap.objs.size f cdv)) →
      RSs (cxOf (L2.CX P w) P w K mg base N qual (defScope st) f cdv A outer s H E) (WD E) (.O sp) (defBody st) g) : FnOk P w K mg base (L2.CX P w) (k + 1) f fd ps (spM ⟨P, w, K, mg⟩ (.O sp) (runO ps.length N.length g)) := by
  refine F.okX S (spM_len fun ds h => if_neg h) fun cdv A outer s H vs Q E hr ⟨F0, ds, s0, tt, r, o⟩ => ⟨_, hb cdv A outer s H E hr, H, F0, _, F0, _, ms_start s0 tt r, ?_⟩
  unfold runO at o
  split at o
  case isFalse => exact o.elim
  cases e : g (startD N.length ds) with
  | rt d =>
    rw [e] at o
    exact fun F' H' v _ gr kr => o F' H' gr v kr
  | er x r' =>
    rw [e] at o
    exact fun fp F' σ' H' cls dd _ m ex => o cls dd F' H' m.g0 ex
  | nx r' => rw [e] at o; exact o.elim
  | bk r' => rw [e] at o; exact o.elim
  | ct r' => rw [e] at o; exact o.elim
  | bad => rw [e] at o; exact o.elim
end
/-- a def of the module by its name -/
structure FnM (P : Program) (w : World) (K : PySem.W.Frag) (mg : Str → Option Value) (base : Heap) (j : Nat) (x : Str) (k : Kd) (g : List D → Res D) : Prop where
  ex : ∃ (f : Addr) (fd : FuncData) (ps : List Str), FnOk P w K mg base (L2.CX P w) j f fd ps (spM ⟨P, w, K, mg⟩ k g) ∧ mg x = some (.ref f) ∧ PySem.W.keepIn K (.ref f) = true ∧ Binds K fd ps []
/-- a method m of the class c -/
structure MtM (P : Program) (w : World) (K : PySem.W.Frag) (mg : Str → Option Value) (base : Heap) (j : Nat) (m : Str) (c : Nat) (k : Kd) (g : List D → Res D) : Prop where
  ex : ∃ (f : Addr) (fd : FuncData) (ps : List Str), FnOk P w K mg base (L2.CX P w) j f fd ps (spM ⟨P, w, K, mg⟩ k g) ∧ Meth K ((⟨P, w, K, mg⟩ : GC).ca c) m f ∧ Binds K fd ps []
  cl : Cls K ((⟨P, w, K, mg⟩ : GC).ca c)
  no : m ∉ cflds c
/-- the class c is made by its __init__ -/
structure MkM (P : Program) (w : World) (K : PySem.W.Frag) (mg : Str → Option Value) (base : Heap) (j : Nat) (c : Nat) (g : List D → Res D) : Prop where
  ex : ∃ (f : Addr) (fd : FuncData) (ps : List Str), FnOk P w K mg base (L2.CX P w) j f fd ps (spI ⟨P, w, K, mg⟩ c g) ∧ Mk K ((⟨P, w, K, mg⟩ : GC).ca c) f ∧ mg (cname c) = some (.ref ((⟨P, w, K, mg⟩ : GC).ca c)) ∧ Binds K fd ps []
/-- an attribute f, by classes: its place -/
structure FldM (K : PySem.W.Frag) (ca : Nat → Addr) (f : Str) (p : Nat → Option Nat) : Prop where
  h : ∀ c i, p c = some i → (cflds c)[i]? = some f ∧ (cflds c).Nodup ∧ Cls K (ca c) ∧ NoAttr K (ca c) f
theorem lookup_zip {f : Str} : ∀ {l : List Str} {ws : List V} {i : Nat} {v : V}, l.Nodup → l[i]? = some f → ws[i]? = some v → (l.zip ws).lookup f = some v
  | [], _, _, _, _, h, _ => by simp at h
  | _ :: _, [], _, _, _, _, h => by simp at h
  | a :: l, w :: ws, 0, v, _, h, q => by
    simp at h q
    subst h q
    simp [List.lookup]
  | a :: l, w :: ws, i + 1, v, n, h, q => by
    have hm : f ∈ l := List.mem_of_getElem? (by simpa using h)
    have ne : f ≠ a := fun e => (List.nodup_cons.mp n).1 (e ▸ hm)
    have e : (f == a) = false := by simpa using ne
    rw [List.zip_cons_cons, List.lookup_cons, e]
    exact lookup_zip (i := i) (List.nodup_cons.mp n).2 (by simpa using h) (by simpa using q)
theorem lookup_zip_none {f : Str} : ∀ {l : List Str} {ws : List V}, f ∉ l → (l.zip ws).lookup f = none
  | [], _, _ => rfl
  | _ :: _, [], _ => rfl
  | a :: l, w :: ws, h => by
    have ne : f ≠ a := fun e => h (e ▸ List.mem_cons_self)
    have e : (f == a) = false := by simpa using ne
    rw [List.zip_cons_cons, List.lookup_cons, e]
    exact lookup_zip_none fun q => h (List.mem_cons_of_mem _ q)
/-- an attribute of an object -/
def fldD (p : Nat → Option Nat) (d : D) : Res D := match d with
  | .obj c vs => match p c with
    | some i => match vs[i]? with
      | some d => .ok d
      | none => .bad
    | none => .bad
  | _ => .bad
/-- the method of an object -/
def mthD (mt : Nat → Option (List D → Res D)) (d : D) : Res (List D → Res D) := match d with
  | .obj c vs => match mt c with
    | some g => .ok fun ds => g (.obj c vs :: ds)
    | none => .bad
  | _ => .bad
theorem fldD_er {p : Nat → Option Nat} {d e : D} (h : fldD p d = .er e) : False := by
  unfold fldD at h
  split at h
  · split at h
    · split at h <;> cases h
    · cases h
  · cases h
theorem fldD_ok {p : Nat → Option Nat} {d e : D} (h : fldD p d = .ok e) : ∃ c vs i, d = .obj c vs ∧ p c = some i ∧ vs[i]? = some e := by
  unfold fldD at h
  split at h
  · rename_i c vs
    split at h
    · rename_i i hp
      split at h
      · rename_i d' hv
        cases h
        exact ⟨c, vs, i, rfl, hp, hv⟩
      · cases h
    · cases h
  · cases h
theorem mthD_er {mt : Nat → Option (List D → Res D)} {d e : D} (h : mthD mt d = .er e) : False := by
  unfold mthD at h
  split at h
  · split at h <;> cases h
  · cases h
theorem mthD_ok {mt : Nat → Option (List D → Res D)} {d : D} {g' : List D → Res D} (h : mthD mt d = .ok g') : ∃ c vs g, d = .obj c vs ∧ mt c = some g ∧ g' = fun ds => g (.obj c vs :: ds) := by
  unfold mthD at h
  split at h
  · rename_i c vs
    split at h
    · rename_i g hm
      cases h
      exact ⟨c, vs, g, rfl, hm, rfl⟩
    · cases h
  · cases h
section
variable {X : Cx} {W : Wi} {k : Kd} {e o : Expr} {es : List Expr} {p pos apos : Pos}
theorem OutC.of {G : GC} {W : Wi} {σ : L2.St} {F H : Hp} {α : Type} {P : Hp → Hp → α → Prop} {x : Res α} (h : Out G W σ F H P x) : OutC G (WE W.w σ) F H P x := by
  cases x <;> exact h
theorem spM_of {G : GC} {W : Wi} {σ : L2.St} {F H1 H : Hp} {g : List D → Res D} {vs : List V} {ds : List D} {Q : VK} (s : Same F H) (tt : Tt F H) (hs : Fre H1 H) (r : RepAll G F vs ds)
    (o : Out G W σ F H (fun F' H' d => ∀ v, k.Rep G H1 F' H' v d → Q v H') (g ds)) : spM G k g vs H Q (WE W.w σ) :=
  ⟨F, ds, s, tt, r, OutC.of (o.imp fun F' H' d _ q v kv => q v (kv.later hs))⟩
/-- f(e, ..) -/
theorem re_call {j : Nat} {x : Str} {g : List D → Res D} {fa : Env → Res (List D)} (M : FnM X.prog X.w X.K X.mg X.base j x k g) (hr : Room j X.A) (tk : Takes X W.w) (ha : RA X W (e :: es) fa) (hg : Gl X x := by rfl)
    (hdb : (x == ("__debug__" : Str)) = false := by decide) (he : starEach (e :: es) X.env = (false, eval e X.env) :: starEach es X.env := by rfl) (hpl : (backTo pos (starEach es X.env)).any (·.1) = false := by rfl) :
    RE X W k (.Call (.Name x p) (e :: es) [] pos) (fun r => fa r >>= g) := by
  obtain ⟨f, fd, ps, F, hm, hk, hb⟩ := M.ex
  refine ⟨fun pins s σ H Q I ⟨H0, F0, fp, F1, r, m, o⟩ => ?_⟩
  refine wpAny_Call_Name_kw (ld_glob I hg hm ?_ hdb)
  have hw : tA (gOf X) W fa σ H fun vs H1 => spM (gOf X) k g vs H1 Q (WE W.w σ) := ⟨H0, F0, fp, F1, r, m, o.bind fun F2 H2 ds gr o2 vs rv => spM_of gr.sub (gr.h.tt m.tt) gr.h.fre rv o2⟩
  refine PySem.W.callWith_K (h₀ := X.base) I.ok.mod.kin hk (thn (ha.run pos pins s σ H _ I hw) fun us s1 ⟨vs, H1, I1, r1, q⟩ => ⟨I1.kIn, ?_⟩) he hpl
  exact run_fnS F hr hb (passAt tk σ) I1 r1 q
/-- o.f -/
theorem re_fld {f : Str} {pt : Nat → Option Nat} {fo : Env → Res D} (M : FldM X.K (gOf X).ca f pt) (ho : RE X W .S o fo) (hb : attributeBase o f X.env (eval o X.env) = eval o X.env := by rfl) : RE X W .S (.Attribute o f pos) (fun r => fo r >>= fldD pt) :=
  (pe_fld ho hb).imp fun σ H Q ⟨H0, F0, fp, F, r, m, oo⟩ => ⟨H0, F0, fp, F, r, m, oo.bind fun F' H' d gr o2 v kv => by
    cases ef : fldD pt d with
    | er x => exact (fldD_er ef).elim
    | bad => rw [ef] at o2; exact o2.elim
    | ok d' =>
      obtain ⟨c, vs, i, rfl, hp, hv⟩ := fldD_ok ef
      rw [ef] at o2
      have kv' : Rep (gOf X) F' v (.obj c vs) := kv
      cases kv' with
      | @obj a dx _ ws _ ha hz ra =>
        obtain ⟨h1, h2, h3, h4⟩ := M.h c i hp
        obtain ⟨w, hw, rw'⟩ := ra.get hv
        exact ⟨a, _, dx, _, w, rfl, gr.sub _ _ ha, h3, h4, lookup_zip h2 h1 hw, o2 F' H' (Grow.refl gr.sub) w rw'⟩⟩
/-- o.m(e, ..) -/
theorem re_meth {j : Nat} {mn : Str} {mt : Nat → Option (List D → Res D)} {fo : Env → Res D} {fa : Env → Res (List D)} {pl : Sem Bool} (M : ∀ c g, mt c = some g → MtM X.prog X.w X.K X.mg X.base j mn c k g) (hr : Room j X.A) (tk : Takes X W.w) (ho : RE X W .S o fo) (ha : RA X W (e :: es) fa)
    (he : starEach (e :: es) X.env = (false, eval e X.env) :: starEach es X.env := by rfl) (hpl : (backTo pos (starEach es X.env)).any (·.1) = false := by rfl)
    (ht : eval (.Call (.Attribute o mn apos) (e :: es) [] pos) X.env = (do
      let ov ← eval o X.env
      standAt apos.atName
      let (f, first) ← holding [ov] (getMethod ov mn pl)
      callWith pos f first (backTo pos (starEach (e :: es) X.env)) (backToKw pos (keywordEach [] X.env))) := by rfl) :
    RE X W k (.Call (.Attribute o mn apos) (e :: es) [] pos) (fun r => fo r >>= fun d => mthD mt d >>= fun g => fa r >>= g) := by
  refine ⟨fun pins s σ H Q I ⟨H0, F0, fp, F, r, m, oo⟩ => methcall_of ho I ⟨H0, F0, fp, F, r, m, oo.bind fun F1 H1 d gr o2 v kv => ?_⟩ ht⟩
  cases em : mthD mt d with
  | er x => exact (mthD_er em).elim
  | bad => rw [em] at o2; exact o2.elim
  | ok g' =>
    obtain ⟨c, vs, g, rfl, hc, rfl⟩ := mthD_ok em
    rw [em] at o2
    have kv' : Rep (gOf X) F1 v (.obj c vs) := kv
    obtain ⟨⟨f, fd, ps, FO, hmt, hb⟩, hcl, hno⟩ := M c g hc
    cases hkv : kv' with
    | @obj a dx _ ws _ hat hz ra =>
      refine ⟨a, _, dx, _, f, rfl, gr.sub _ _ hat, hcl, hmt, lookup_zip_none hno, fun s1 I1 => ?_⟩
      have hw : tA (gOf X) W fa σ H1 fun us H2 => spM (gOf X) k g (.ref a :: us) H2 Q (WE W.w σ) := ⟨H0, F0, fp, F1, r, m.grow gr, Out.bind o2 fun F2 H2 ds gr2 o3 us ru =>
        spM_of gr2.sub (gr2.h.tt (gr.h.tt m.tt)) (gr.h.trans gr2.h).fre (.cons (kv'.mono gr2.f) ru) o3⟩
      refine PySem.W.callWith_K (first := [.ref a]) (h₀ := X.base) I1.ok.mod.kin hmt.kp (thn (ha.run pos pins s1 σ H1 _ I1 hw) fun us s2 ⟨vs2, H2, I2, r2, q2⟩ => ⟨I2.kIn, ?_⟩) he hpl
      exact run_fnS (us := .ref a :: us) (vs := .ref a :: vs2) FO hr hb (passAt tk σ) I2 (.cons rfl r2) q2
theorem re_meth0 {j : Nat} {mn : Str} {mt : Nat → Option (List D → Res D)} {fo : Env → Res D} {pl : Sem Bool} (M : ∀ c g, mt c = some g → MtM X.prog X.w X.K X.mg X.base j mn c k g) (hr : Room j X.A) (tk : Takes X W.w) (ho : RE X W .S o fo)
    (ht : eval (.Call (.Attribute o mn apos) [] [] pos) X.env = (do
      let ov ← eval o X.env
      standAt apos.atName
      let (f, first) ← holding [ov] (getMethod ov mn pl)
      callWith pos f first (backTo pos (starEach [] X.env)) (backToKw pos (keywordEach [] X.env))) := by rfl) :
    RE X W k (.Call (.Attribute o mn apos) [] [] pos) (fun r => fo r >>= fun d => mthD mt d >>= fun g => g []) := by
  refine ⟨fun pins s σ H Q I ⟨H0, F0, fp, F, r, m, oo⟩ => methcall_of ho I ⟨H0, F0, fp, F, r, m, oo.bind fun F1 H1 d gr o2 v kv => ?_⟩ ht⟩
  cases em : mthD mt d with
  | er x => exact (mthD_er em).elim
  | bad => rw [em] at o2; exact o2.elim
  | ok g' =>
    obtain ⟨c, vs, g, rfl, hc, rfl⟩ := mthD_ok em
    rw [em] at o2
    have kv' : Rep (gOf X) F1 v (.obj c vs) := kv
    obtain ⟨⟨f, fd, ps, FO, hmt, hb⟩, hcl, hno⟩ := M c g hc
    cases hkv : kv' with
    | @obj a dx _ ws _ hat hz ra =>
      refine ⟨a, _, dx, _, f, rfl, gr.sub _ _ hat, hcl, hmt, lookup_zip_none hno, fun s1 I1 => ?_⟩
      exact PySem.W.callWith_K0 (first := [.ref a]) I1.kIn hmt.kp (run_fnS (us := [.ref a]) (vs := [.ref a]) FO hr hb (passAt tk σ) I1 (.cons rfl .nil) (spM_of gr.sub (gr.h.tt m.tt) gr.h.fre (.cons kv' .nil) o2))
end
end Mir
namespace Mir
open PySem PySem.Spec PyProof.Rows L2
variable [Tn]
section
variable {X : Cx} {CX : CXT} {k : Nat} {f C : Addr} {fd : FuncData} {ps : List Str} {sp : Sp} {E : L2.St → XK}
/-- a new instance and its __init__, what is raised wished for at the names' values -/
theorem run_makeS {pins : List (Addr × Obj)} {σ : L2.St} {H : Hp} {s : Shared} {Q : VK} {us : List Value} {vs : List V} (M : Mk X.K C f) (F : FnOk X.prog X.w X.K X.mg X.base CX k f fd ps sp) (hr : Room (k + 1) X.A) (hb : Binds X.K fd ps []) (hx : PassesAt CX X σ (E σ)) (I : Inv X pins σ H s) (r : Vals vs us)
    (h : ∀ x dx, H x = none → H dx = none → dx ≠ x → sp (.ref x :: vs) (upd (upd H dx (.own x)) x (.ins C dx [])) (fun v H2 => v = .non ∧ Q (.ref x) H2) (E σ)) : wpAny (model X.prog X.w) X.A (call (.ref C) us) (EP X pins σ Q) X.xe s := by
  have n1 : H (s.heap.objs.size + 1) = none := I.hok.fresh (Nat.le_succ _)
  have n0 : H s.heap.objs.size = none := I.hok.fresh (Nat.le_refl _)
  have due := h _ _ n1 n0 (Nat.ne_of_lt (Nat.lt_succ_self _))
  have J := Inv.made (C := C) I
  have rr : Vals (V.ref (s.heap.objs.size + 1) :: vs) (Value.ref (s.heap.objs.size + 1) :: us) := .cons rfl r
  have hl : (Value.ref (s.heap.objs.size + 1) :: us).length = ps.length := (F.len _ _ _ _ due) ▸ rr.length.symm
  have bt := hb _ (Value.ref (s.heap.objs.size + 1) :: us) J.kIn (by rw [List.append_nil]; exact hl)
  rw [List.append_nil] at bt
  refine wpAny_call (make_map (f := f) I.kIn M.makes M.init (beq_iff_eq.mp M.fn) (codeAny_mono (F.run _ X.stack _ _ _ _ _ _ (E σ) (hr.make C us []) (J.env0.make C us []) bt rr due) fun res s' q => ?_))
  match res, q with
  | .error e, q => exact hx pins _ _ e s' J q
  | .ok (.ret u), q =>
    obtain ⟨v, H', I', rv, ev, q'⟩ := J.after q
    subst ev
    exact ⟨rv, ⟨V.ref (s.heap.objs.size + 1), H', I', rfl, q'⟩⟩
  | .ok .next, q => exact q.elim
  | .ok .brk, q => exact q.elim
  | .ok .cont, q => exact q.elim
end
section
variable {X : Cx} {W : Wi} {e : Expr} {es : List Expr} {p pos : Pos}
theorem spI_of {G : GC} {W : Wi} {σ : L2.St} {F H1 H : Hp} {c : Nat} {g : List D → Res D} {vs : List V} {ds : List D} {Q : VK} (s : Same F H) (tt : Tt F H) (r : RepAll G F vs ds)
    (o : Out G W σ F H (fun F' H' d => ∀ v, Kd.S.Rep G H1 F' H' v d → Q v H') (g ds)) : ∀ x dx, H x = none → H dx = none → dx ≠ x →
      spI G c g (.ref x :: vs) (upd (upd H dx (.own x)) x (.ins (G.ca c) dx [])) (fun v H2 => v = .non ∧ Q (.ref x) H2) (WE W.w σ) := fun x dx nx ndx ne =>
  ⟨x, dx, vs, F, H, ds, rfl, upd_same, fun b o e => by rw [upd_ne (ne_of_none e nx), upd_ne (ne_of_none e ndx)]; exact e, nx, s, tt, r, OutC.of (o.imp fun F' H' d _ q rv => ⟨rfl, q (.ref x) rv⟩)⟩
/-- C(e, ..) -/
theorem re_make {j c : Nat} {x : Str} {g : List D → Res D} {fa : Env → Res (List D)} (M : MkM X.prog X.w X.K X.mg X.base j c g) (hr : Room (j + 1) X.A) (tk : Takes X W.w) (ha : RA X W (e :: es) fa) (hx : x = cname c := by rfl) (hg : Gl X x := by rfl)
    (hdb : (x == ("__debug__" : Str)) = false := by decide) (he : starEach (e :: es) X.env = (false, eval e X.env) :: starEach es X.env := by rfl) (hpl : (backTo pos (starEach es X.env)).any (·.1) = false := by rfl) :
    RE X W .S (.Call (.Name x p) (e :: es) [] pos) (fun r => fa r >>= g) := by
  subst hx
  obtain ⟨f, fd, ps, F, hmk, hm, hb⟩ := M.ex
  refine ⟨fun pins s σ H Q I ⟨H0, F0, fp, F1, r, m, o⟩ => ?_⟩
  refine wpAny_Call_Name_kw (ld_glob I hg hm ?_ hdb)
  have hw : tA (gOf X) W fa σ H fun vs H1 => ∀ x dx, H1 x = none → H1 dx = none → dx ≠ x → spI (gOf X) c g (.ref x :: vs) (upd (upd H1 dx (.own x)) x (.ins ((gOf X).ca c) dx [])) (fun v H2 => v = .non ∧ Q (.ref x) H2) (WE W.w σ) :=
    ⟨H0, F0, fp, F1, r, m, o.bind fun F2 H2 ds gr o2 vs rv => spI_of gr.sub (gr.h.tt m.tt) rv o2⟩
  refine PySem.W.callWith_K (h₀ := X.base) I.ok.mod.kin hmk.kp (thn (ha.run pos pins s σ H _ I hw) fun us s1 ⟨vs, H1, I1, r1, q⟩ => ⟨I1.kIn, ?_⟩) he hpl
  exact run_makeS hmk F hr hb (passAt tk σ) I1 r1 q
end
section
variable {G : GC}
theorem spI_len {c n : Nat} {g : List D → Res D} (hg : ∀ ds, ds.length ≠ n → g ds = .bad) : ∀ vs H Q E, spI G c g vs H Q E → vs.length = n + 1 := fun vs H Q E ⟨x, dx, vs', F, H0, ds, ev, _, _, _, _, _, r, o⟩ => by
  by_cases h : ds.length = n
  · rw [ev, List.length_cons, r.length, h]
  · rw [hg ds h] at o; exact o.elim
theorem ms_startI {c : Nat} {x dx : Addr} {F H0 H : Hp} {N : List Str} {vs : List V} {ds : List D} (hx : H x = some (.ins (G.ca c) dx [])) (s0 : Same H0 H) (nx : H0 x = none) (s : Same F H0) (tt : Tt F H0) (r : RepAll G F vs ds) (hN : 0 < N.length) :
    MS G (fun σ => σ[0]? = some (some (.ref x))) H0 F (fun _ => [x]) F (L2.start N (.ref x :: vs)) H (startI N.length c ds) where
  jo := start_at rfl
  s0 := .of s0 (Same.refl _) (fun _ _ e => .inl e)
  f0 := Same.refl _
  sub := s.trans s0
  new := fun _ _ e => .inl e
  len := by
    unfold L2.start startI startD
    have := r.length
    simp only [List.length_append, List.length_map, List.length_replicate, List.length_cons]
    omega
  sh := fun i d e => by
    cases i with
    | zero => cases e
    | succ i =>
      rcases startD_un (show (startD (N.length - 1) ds)[i]? = some (.sh d) from e) with ⟨d', e1, e2⟩ | e2
      · cases e2
        obtain ⟨v, h1, h2⟩ := r.get e1
        exact ⟨v, start_at (by simpa using h1), h2⟩
      · cases e2
  ow := fun i t d e => by
    cases i with
    | zero =>
      cases e
      refine ⟨⟨.ref x, start_at rfl, ?_⟩, fun a ha => by rw [List.mem_singleton.mp ha]; exact nx⟩
      refine Own.obj (ws := []) (dx := dx) rfl (by rw [List.zip_nil_right]; exact hx) (s.free nx) (Nat.zero_le _) .nil (by simp)
    | succ i =>
      rcases startD_un (show (startD (N.length - 1) ds)[i]? = some (.ow t d) from e) with ⟨_, _, z⟩ | z <;> cases z
  ap := fun i j t u d e ne h1 h2 => by
    have z : ∀ {i : Nat} {t : Shape} {d : D}, (startI N.length c ds)[i]? = some (.ow t d) → i = 0 := fun {i t d} h => by
      cases i with
      | zero => rfl
      | succ i =>
        rcases startD_un (show (startD (N.length - 1) ds)[i]? = some (.ow t d) from h) with ⟨_, _, z⟩ | z <;> cases z
    exact absurd ((z h1).trans (z h2).symm) ne
  t0 := tt
end
section
variable {P : Program} {w : World} {K : PySem.W.Frag} {mg : Str → Option Value} {base : Heap}
abbrev WI (x : Addr) (E : XK) : Wi := ⟨fun cls d _ H => E cls d H, fun σ => σ[0]? = some (some (.ref x))⟩
theorem fn_okI {qual : Str} {st : Stmt} {f : Addr} {fd : FuncData} {N ps : List Str} {k c : Nat} {g : Env → Oc} (F : Fun K "__init__" qual st f fd) (S : FnScope N ps (defScope st)) (hps : 0 < ps.length)
    (hb : ∀ (cdv : Value) (A : Around) (outer : List PySem.Env) (s : Shared) (H : Hp) (E : XK) (x : Addr), Room k (A.deeper (envOfC qual (defScope st) s.heap.objs.size f cdv)) →
      RSs (cxOf (L2.CX P w) P w K mg base N qual (defScope st) f cdv A outer s H E) (WI x E) .S (defBody st) g) : FnOk P w K mg base (L2.CX P w) (k + 1) f fd ps (spI ⟨P, w, K, mg⟩ c (runI (ps.length - 1) N.length c g)) := by
  have hNl : ps.length ≤ N.length := by have := congrArg List.length S.pre; rw [List.length_take] at this; omega
  refine F.okX S (fun vs H Q E h => (spI_len (n := ps.length - 1) (fun ds h => if_neg h) vs H Q E h).trans (by omega)) fun cdv A outer s H vs Q E hr ⟨x, dx, vs', F1, H0, ds, ev, hx, s0, nx, sF, tt0, r, o⟩ => ?_
  subst ev
  refine ⟨_, hb cdv A outer s H E x hr, H0, F1, _, F1, _, ms_startI hx s0 nx sF tt0 r (by omega), ?_⟩
  unfold runI at o
  split at o
  case isFalse => exact o.elim
  cases e : g (startI N.length c ds) with
  | rt d => rw [e] at o; exact o.elim
  | er y r' =>
    rw [e] at o
    exact fun fp F' σ' H' cls dd _ m ex => o cls dd F' H' m.g0 ex
  | nx r' =>
    rw [e] at o
    intro fp F' σ' H' _ m
    have o' : OutC _ E F1 H0 _ (selfR r') := o
    have j0 : σ'[0]? = some (some (.ref x)) := m.jo
    cases e2 : selfR r' with
    | er y => unfold selfR at e2; split at e2 <;> cases e2
    | bad => rw [e2] at o'; exact o'.elim
    | ok d =>
      rw [e2] at o'
      obtain ⟨F2, _, m2⟩ := m.freeze 0
      have hs : (freeze 0 r')[0]? = some (.sh d) := by
        unfold selfR at e2
        split at e2
        · rename_i d' hd
          cases e2
          unfold freeze
          rw [hd]
          exact hd
        · rename_i t d' hd
          cases e2
          unfold freeze
          rw [hd]
          exact List.getElem?_set_self (List.getElem?_eq_some_iff.mp hd).1
        · cases e2
      obtain ⟨v, hv, rv⟩ := m2.sh 0 d hs
      rw [j0] at hv
      cases hv
      exact o' F2 H' m2.g0 rv
  | bk r' => rw [e] at o; exact o.elim
  | ct r' => rw [e] at o; exact o.elim
  | bad => rw [e] at o; exact o.elim
end
section
variable {G : GC} {F H F' H' : Hp}
theorem OwnAll.snoc {f f' : Nat → Shape} {s : Shape} {v : V} {d : D} {B : List Addr} (q : Own G F H s v d B) : ∀ {n : Nat} {vs : List V} {ds : List D} {A : List Addr}, OwnAll G F H f n vs ds A → (∀ j, n ≤ j → j < n + vs.length → f' j = f j) → f' (n + vs.length) = s → (∀ a ∈ A, a ∉ B) →
    OwnAll G F H f' n (vs ++ [v]) (ds ++ [d]) (A ++ B)
  | n, [], _, _, .nil, _, h2, _ => by
    have z : OwnAll G F H f' n [v] [d] (B ++ []) := .cons (by rw [show f' n = s from h2]; exact q) .nil (fun _ _ h => nomatch h)
    rw [List.append_nil] at z
    exact z
  | n, v' :: vs, d' :: ds, _, .cons (A := A1) (B := A2) r t x, h1, h2, h3 => by
    rw [List.append_assoc]
    refine .cons (by rw [h1 n (Nat.le_refl _) (by simp)]; exact r) (OwnAll.snoc q t (fun j a b => h1 j (by omega) (by simp only [List.length_cons]; omega)) (by rw [← h2]; congr 1; simp only [List.length_cons]; omega) fun a ha => h3 a (List.mem_append_right _ ha)) fun a ha hb => ?_
    rcases List.mem_append.mp hb with z | z
    · exact x a ha z
    · exact h3 a (List.mem_append_left _ ha) z
theorem OwnAll.length {f : Nat → Shape} : ∀ {n : Nat} {vs : List V} {ds : List D} {A : List Addr}, OwnAll G F H f n vs ds A → vs.length = ds.length
  | _, _, _, _, .nil => rfl
  | _, _, _, _, .cons _ t _ => congrArg (· + 1) (OwnAll.length t)
theorem Keep.upd {A : List Addr} {a : Addr} {o : HO} (h : a ∉ A) : Keep A F H F (upd H a o) := ⟨fun b hb u e => by rw [upd_ne (fun z => h (by rw [← z]; exact hb))]; exact e, Same.refl _, fun _ _ z => z⟩
theorem putF_zip {f : Str} {y : V} : ∀ {l : List Str} {ws : List V}, l.Nodup → l[ws.length]? = some f → putF f y (l.zip ws) = l.zip (ws ++ [y])
  | [], ws, _, h => by simp at h
  | a :: l, [], _, h => by
    simp at h
    subst h
    show [(a, y)] = _
    rw [List.nil_append, List.zip_cons_cons, List.zip_nil_right]
  | a :: l, w :: ws, n, h => by
    have h' : l[ws.length]? = some f := by simpa using h
    have hm : f ∈ l := List.mem_of_getElem? h'
    have ne : ¬ a = f := fun e => (List.nodup_cons.mp n).1 (e ▸ hm)
    rw [List.cons_append, List.zip_cons_cons, List.zip_cons_cons, ← putF_zip (List.nodup_cons.mp n).2 h']
    show (if a = f then _ else _) = _
    rw [if_neg ne]
/-- an owned thing is written: the state behind -/
theorem MS.write {J : L2.St → Prop} {H0 F0 : Hp} {fp : Nat → List Addr} {σ : L2.St} {r : Env} (m : MS G J H0 F0 fp F σ H r) {i : Nat} {s s' : Shape} {d d' : D} {v : V} {a : Addr} {o : HO} {A : List Addr} (hi : r[i]? = some (.ow s d)) (hv : σ[i]? = some (some v)) (ha : a ∈ fp i)
    (q : Own G F (upd H a o) s' v d' A) (hA : ∀ b ∈ A, b ∈ fp i ∨ (H b = none ∨ (H0 b = none ∧ ∀ j, j ≠ i → ∀ t e, r[j]? = some (.ow t e) → b ∉ fp j))) : ∃ fp', MS G J H0 F0 fp' F σ (upd H a o) (r.set i (.ow s' d')) := by
  have hil : i < r.length := (List.getElem?_eq_some_iff.mp hi).1
  obtain ⟨⟨v0, hv0, o0⟩, hn⟩ := m.ow i s d hi
  have h0 : H0 a = none := hn a ha
  have f0 : F a = none := (o0.there a (by assumption)).1
  have notA : ∀ j t e, j ≠ i → r[j]? = some (.ow t e) → a ∉ fp j := fun j t e ne h z => m.ap i j s t d e (Ne.symm ne) hi h a ha z
  refine ⟨fun j => if j = i then A else fp j, m.jo, m.s0.upd h0, m.f0, fun b u e => ?_, m.new, by simpa using m.len, fun j e h => ?_, fun j t e h => ?_, fun j k t u e1 e2 ne h1 h2 b => ?_, m.t0⟩
  · rw [upd_ne (ne_of_none e f0)]; exact m.sub b u e
  · rcases get_set_slot h with ⟨_, x, _⟩ | ⟨ne, h⟩
    · cases x
    · exact m.sh j e h
  · rcases get_set_slot h with ⟨rfl, x, hl⟩ | ⟨ne, h⟩
    · cases x
      rw [if_pos rfl]
      refine ⟨⟨v, hv, q⟩, fun b hb => ?_⟩
      rcases hA b hb with z | z | z
      · exact hn b z
      · exact m.s0.free z
      · exact z.1
    · rw [if_neg (Ne.symm ne)]
      obtain ⟨⟨u, q1, q2⟩, q3⟩ := m.ow j t e h
      exact ⟨⟨u, q1, q2.keep (Keep.upd (notA j t e (Ne.symm ne) h))⟩, q3⟩
  · have other : ∀ j t e, j ≠ i → r[j]? = some (.ow t e) → ∀ b ∈ A, b ∉ fp j := fun j t e ne h b hb z => by
      rcases hA b hb with y | y | y
      · exact m.ap i j s t d e (Ne.symm ne) hi h b y z
      · obtain ⟨⟨_, _, o3⟩, _⟩ := m.ow j t e h
        obtain ⟨_, w, e3⟩ := o3.there b z
        rw [y] at e3
        cases e3
      · exact y.2 j ne t e h z
    rcases get_set_slot h1 with ⟨rfl, x, _⟩ | ⟨n1, h1⟩
    · rcases get_set_slot h2 with ⟨z, _, _⟩ | ⟨n2, h2⟩
      · exact absurd z ne
      · rw [if_pos rfl, if_neg (Ne.symm n2)]
        exact other k u e2 (Ne.symm n2) h2 b
    · rcases get_set_slot h2 with ⟨rfl, x, _⟩ | ⟨n2, h2⟩
      · rw [if_pos rfl, if_neg (Ne.symm n1)]
        exact fun hb hz => other j t e1 (Ne.symm n1) h1 b hz hb
      · rw [if_neg (Ne.symm n1), if_neg (Ne.symm n2)]
        exact m.ap j k t u e1 e2 ne h1 h2 b
end
/-- a class that may be made and read -/
structure ClM (K : PySem.W.Frag) (ca : Nat → Addr) (f : Str) (c : Nat) : Prop where
  cl : Cls K (ca c)
  no : NoAttr K (ca c) f
  nd : (cflds c).Nodup
/-- the n-th part is of the shape t -/
def Shape.setKid (s : Shape) (n : Nat) (t : Shape) : Shape := match t with
  | .sh => s
  | t => .parts ((List.range n).map s.kid ++ [t])
/-- the n-th part is none of one's own as yet -/
def Shape.fits (s : Shape) (n : Nat) : Bool := match s with
  | .parts l => decide (l.length ≤ n)
  | .opts _ => false
  | _ => true
theorem Shape.kid_fits {s : Shape} {n : Nat} (h : s.fits n = true) : s.kid n = .sh := by
  cases s with
  | parts l =>
    have h' : l.length ≤ n := of_decide_eq_true h
    show l.getD n .sh = .sh
    rw [List.getD_eq_getElem?_getD, List.getElem?_eq_none h']
    rfl
  | opts l => cases h
  | _ => rfl
theorem Shape.setKid_own {s : Shape} {n : Nat} {t : Shape} (h : s.own = true) : (s.setKid n t).own = true := by
  cases t with
  | sh => exact h
  | _ => rfl
theorem Shape.setKid_at {s : Shape} {n : Nat} {t : Shape} (h : s.fits n = true) : (s.setKid n t).kid n = t := by
  have e : ∀ t, Shape.kid (.parts ((List.range n).map s.kid ++ [t])) n = t := fun t => by
    show (_ ++ [t]).getD n .sh = t
    rw [List.getD_eq_getElem?_getD, List.getElem?_append_right (by simp)]
    simp
  cases t with
  | sh => exact Shape.kid_fits h
  | flat => exact e _
  | parts l => exact e _
  | opts l => exact e _
theorem Shape.setKid_lt {s : Shape} {n j : Nat} {t : Shape} (h : j < n) : (s.setKid n t).kid j = s.kid j := by
  have e : ∀ t, Shape.kid (.parts ((List.range n).map s.kid ++ [t])) j = s.kid j := fun t => by
    show (_ ++ [t]).getD j .sh = _
    rw [List.getD_eq_getElem?_getD, List.getElem?_append_left (by simpa using h), List.getElem?_map, List.getElem?_range h]
    rfl
  cases t with
  | sh => rfl
  | flat => exact e _
  | parts l => exact e _
  | opts l => exact e _
section
variable {X : Cx} {W : Wi} {k : Kd} {e : Expr} {f : Str} {pos p' ps : Pos} {fe : Env → Res D}
theorem re_shO {e : Expr} {f : Env → Res D} (h : RE X W .S e f) : RE X W (.O .sh) e f :=
  h.imp fun σ H Q ⟨H0, F0, fp, F, r, m, o⟩ => ⟨H0, F0, fp, F, r, m, o.imp fun F' H' d _ p v kv => p v ⟨[], .sh kv, fun _ z => nomatch z⟩⟩
/-- the next attribute of the object in slot i -/
def setF (i c : Nat) (f : Str) (s : Shape) (d : D) (r : Env) : Oc := match r[i]? with
  | some (.ow g (.obj c' vs)) => if c' = c ∧ (cflds c)[vs.length]? = some f ∧ g.own = true ∧ g.fits vs.length = true then .nx (r.set i (.ow (g.setKid vs.length s) (.obj c (vs ++ [d])))) else .bad
  | _ => .bad
theorem rs_fldO (i c : Nat) {s : Shape} {x : Str} (M : ClM X.K (gOf X).ca f c) (he : RE X W (.O s) e fe) (hN : X.N[i]? = some x := by rfl) (hv : Vis X.env.scope x := by first | exact Or.inl rfl | exact Or.inr (Or.inl rfl)) (hd : (x == ("__debug__" : Str)) = false := by decide)
    (hcd : (x == ("__classdict__" : Str)) = false := by decide) (hs : swapsWith e (some (.Attribute (.Name x ps) f p')) pos.line X.env = pure false := by rfl) :
    RS X W k (.Assign [.Attribute (.Name x ps) f p'] e pos) (fun r => lift (fe r) r fun d => setF i c f s d r) :=
  (ps_fld (pe_var hN hv hd hcd) he hs).imp fun D σ H ⟨H0, F0, fp, F, r, m, o⟩ => ⟨H0, F0, fp, F, r, m, o.lift m fun F' H' d gr o' v ⟨B, ob, nb⟩ => by
    unfold setF at o'
    split at o'
    · rename_i g c' vs hi
      split at o'
      · rename_i hc
        obtain ⟨rfl, hf, go, gf⟩ := hc
        have m' := m.grow gr
        obtain ⟨⟨w, hw, ow⟩, hn⟩ := m'.ow i _ _ hi
        have hff : fp i = fp i := rfl
        generalize hA : fp i = A at ow hn
        cases ow with
        | sh _ => cases go
        | @obj _ a dx _ ws _ A' _ ha fa hz oa na =>
          have hl := oa.length
          refine ⟨.ref a, hw, a, (gOf X).ca c', dx, _, rfl, ha, M.cl, M.no, ?_, ?_⟩
          · rw [List.length_zip]
            have : (cflds c').length ≤ 8 := by
              unfold cflds
              split <;> decide
            omega
          · rw [putF_zip M.nd (by rw [hl]; exact hf)]
            have ain : a ∈ fp i := by rw [hA]; exact List.mem_cons_self
            have aB : a ∉ B := fun z => by
              obtain ⟨⟨_, q1, q2⟩, _⟩ := m.ow i _ _ hi
              obtain ⟨_, u, e⟩ := q2.there a ain
              rw [nb a z] at e
              cases e
            have AB : ∀ b ∈ A', b ∉ B := fun b hb z => by
              obtain ⟨⟨_, q1, q2⟩, _⟩ := m.ow i _ _ hi
              obtain ⟨_, u, e⟩ := q2.there b (by rw [hA]; exact List.mem_cons_of_mem _ hb)
              rw [nb b z] at e
              cases e
            have q : Own (gOf X) F' (upd H' a (.ins ((gOf X).ca c') dx ((cflds c').zip (ws ++ [v])))) (g.setKid vs.length s) (.ref a) (.obj c' (vs ++ [d])) (a :: (A' ++ B)) := by
              refine .obj (Shape.setKid_own go) upd_same fa ?_ (OwnAll.snoc (f := g.kid) (ob.keep (Keep.upd aB)) (oa.keep (Keep.upd na)) (fun j _ hj => ?_) ?_ AB) fun z => (List.mem_append.mp z).elim na aB
              · rw [List.length_append]
                have := (List.getElem?_eq_some_iff.mp hf).1
                simp only [List.length_cons, List.length_nil]
                omega
              · exact Shape.setKid_lt (by omega)
              · rw [Nat.zero_add, hl]
                exact Shape.setKid_at gf
            obtain ⟨fp', m2⟩ := m'.write hi hw ain q fun b hb => by
              rcases List.mem_cons.mp hb with z | z
              · exact .inl (by rw [hA, z]; exact List.mem_cons_self)
              · rcases List.mem_append.mp z with z | z
                · exact .inl (by rw [hA]; exact List.mem_cons_of_mem _ z)
                · refine .inr (.inr ⟨m.s0.free (nb b z), fun j ne t e h y => ?_⟩)
                  obtain ⟨⟨_, _, q2⟩, _⟩ := m.ow j t e h
                  obtain ⟨_, u, e⟩ := q2.there b y
                  rw [nb b z] at e
                  cases e
            exact o' fp' F' σ _ (Same.refl _) m2
      · exact o'.elim
    · exact o'.elim⟩
/-- self.f = e, shared -/
theorem rs_fldS (i c : Nat) {x : Str} (M : ClM X.K (gOf X).ca f c) (he : RE X W .S e fe) (hN : X.N[i]? = some x := by rfl) (hv : Vis X.env.scope x := by first | exact Or.inl rfl | exact Or.inr (Or.inl rfl)) (hd : (x == ("__debug__" : Str)) = false := by decide)
    (hcd : (x == ("__classdict__" : Str)) = false := by decide) (hs : swapsWith e (some (.Attribute (.Name x ps) f p')) pos.line X.env = pure false := by rfl) :
    RS X W k (.Assign [.Attribute (.Name x ps) f p'] e pos) (fun r => lift (fe r) r fun d => setF i c f .sh d r) :=
  rs_fldO i c M (re_shO he) hN hv hd hcd hs
end
end Mir
namespace Mir
open PySem PySem.Spec PyProof.Rows L2
variable [Tn]
abbrev veT : List Value := [.type "ValueError", .type "Exception", .type "BaseException", .type "object"]
/-- an own error class without own __init__ -/
structure ExM0 (K : PySem.W.Frag) (mg : Str → Option Value) (C : Addr) (c : Nat) : Prop where
  gC : mg (cname c) = some (.ref C)
  ex : PySem.W.excIn K C veT "ValueError.__new__" = true
  kC : PySem.W.keepIn K (.ref C) = true
  sb : PySem.W.subIn K (.ref C) (.type "BaseException") = some true
  ty : PySem.W.typeIn K (.ref C) = some (.type "type")
  no : cflds c = []
/-- the promise of an error's __init__: the attributes fl, the last one stored first in it -/
def spE (C : Addr) (fl : List Str) : Sp := fun vs H Q _ => ∃ (a : Addr) (ys : List V), vs = .ref a :: ys ∧ ys.length = fl.length ∧ H a = some (exo a C none) ∧ ∀ dx, H dx = none → dx ≠ a → Q .non (upd (upd H dx (exd dx (fl.zip ys.reverse))) a (exo a C (some dx)))
/-- an own error class with an __init__ that stores what it is given -/
structure ExMA (P : Program) (w : World) (K : PySem.W.Frag) (mg : Str → Option Value) (base : Heap) (C : Addr) (c : Nat) : Prop where
  gC : mg (cname c) = some (.ref C)
  T : OexC K C
  ex : ∃ (f : Addr) (fd : FuncData) (ps : List Str), FnOk P w K mg base (L2.CX P w) 1 f fd ps (spE C (cflds c)) ∧ PySem.W.findIn K (.ref C) "__init__" = some (some (.ref f)) ∧ PySem.W.typeIn K (.ref f) = some (.type "function") ∧ Binds K fd ps []
theorem ca_of {G : GC} {c : Nat} {C : Addr} (h : G.mg (cname c) = some (.ref C)) : G.ca c = C := by
  unfold GC.ca
  rw [h]
section
variable {X : Cx} {W : Wi} {k : Kd} {C : Addr} {c : Nat} {x : Str} {p pos pos2 : Pos} {e : Expr} {es : List Expr}
/-- X() -/
theorem pmk_own0 (M : ExM0 X.K X.mg C c) (hx : x = cname c) (hg : Gl X x) (hdb : (x == ("__debug__" : Str)) = false) : PMk X (.Call (.Name x p) [] [] pos) (fun _ H Q => Q (.ref C) none H) := by
  subst hx
  intro pins s σ H Q I h
  refine wpAny_Call_Name_kw (ld_glob I hg M.gC ?_ hdb)
  refine PySem.W.callWith_K0 I.kIn M.kC ?_
  obtain ⟨bm, N, nm, qn, bs, hdct, sn, sub, ab, col, dd, k0, k1, k2, k3, k5, mN, hC, hN, hni, T⟩ := exc_obj I.kIn M.ex
  refine wpAny_call_exc_subT PySem.F.excBase_ValueError T hC hN hni (fun h' e hm => ?_) (Nat.zero_le _)
  exact mk_of I hm (raises_own M.sb M.ty) h (I.hok.gone hm.new)
theorem rs_raise0 (M : ExM0 X.K X.mg C c) (hc : X.calm = true) (tk : Takes X W.w) (hx : x = cname c := by rfl) (hg : Gl X x := by rfl) (hdb : (x == ("__debug__" : Str)) = false := by decide) :
    RS X W k (.Raise (some (.Call (.Name x p) [] [] pos)) none pos2) (fun r => .er (.exc c []) r) :=
  (ps_raise hc tk (pmk_own0 M hx hg hdb)).imp fun D σ H ⟨H0, F0, fp, F, r, m, o⟩ =>
    o fp F σ H _ _ (Same.refl _) m ⟨c, [], [], rfl, by rw [ca_of (G := gOf X) M.gC], .nil, .inl ⟨rfl, M.no, rfl⟩⟩
/-- X(e, ..) -/
theorem rs_raise (M : ExMA X.prog X.w X.K X.mg X.base C c) (hc : X.calm = true) (tk : Takes X W.w) (hr : Room 2 X.A) {fa : Env → Res (List D)} (ha : RA X W (e :: es) fa) (hl : (e :: es).length ≤ 1000 := by decide) (hx : x = cname c := by rfl) (hg : Gl X x := by rfl) (hdb : (x == ("__debug__" : Str)) = false := by decide)
    (he : starEach (e :: es) X.env = (false, eval e X.env) :: starEach es X.env := by rfl) (hpl : (backTo pos (starEach es X.env)).any (·.1) = false := by rfl) :
    RS X W k (.Raise (some (.Call (.Name x p) (e :: es) [] pos)) none pos2) (fun r => lift (fa r) r fun ds => if ds.length = (cflds c).length ∧ ds.length ≤ 1000 then .er (.exc c ds.reverse) r else .bad) := by
  subst hx
  obtain ⟨f, fd, ps, F1, iC, tI, hb⟩ := M.ex
  refine (ps_raise hc tk (pmk_oex M.T iC tI F1 hr hb .nil (passL (X := X)) hg M.gC ha hdb he hpl)).imp fun D σ H ⟨H0, F0, fp, F, r, m, o⟩ => ⟨H0, F0, fp, F, r, m, o.lift m fun F' H' ds gr o' vs rv => ?_⟩
  split at o'
  · rename_i hl
    have hlen := rv.length
    refine ⟨by omega, fun a na => ⟨a, vs, by simp, by omega, upd_same, fun dx ndx ne => ⟨rfl, dx, _, upd_same, by rw [upd_ne ne, upd_same], ?_, ?_⟩⟩⟩
    · rw [upd_ne ne] at ndx
      exact ndx
    · rw [upd_ne ne] at ndx
      have eH : upd (del (upd (upd (upd H' a (exo a C none)) dx (exd dx ((cflds c).zip vs.reverse))) a (exo a C (some dx))) a) dx (.xd ((cflds c).zip vs.reverse)) = upd H' dx (.xd ((cflds c).zip vs.reverse)) := by
        funext b
        by_cases hb : b = dx
        · rw [hb, upd_same, upd_same]
        · rw [upd_ne hb, upd_ne hb]
          by_cases ha : b = a
          · rw [ha, del_same, na]
          · rw [del_ne ha, upd_ne ha, upd_ne hb, upd_ne ha]
      rw [eH]
      have nF : F' dx = none := gr.sub.free ndx
      have s1 : Same F' (upd F' dx (.xd ((cflds c).zip vs.reverse))) := fun b u q => by rw [upd_ne (ne_of_none q nF)]; exact q
      have g2 : Grow F' H' (upd F' dx (.xd ((cflds c).zip vs.reverse))) (upd H' dx (.xd ((cflds c).zip vs.reverse))) := Grow.of
        (fun b u q => by rw [upd_ne (ne_of_none q ndx)]; exact q)
        s1
        (fun b u q => by
          by_cases hb : b = dx
          · subst hb; rw [upd_same] at q ⊢; exact q
          · rw [upd_ne hb] at q ⊢; exact gr.sub b u q)
        (fun b u q => by
          by_cases hb : b = dx
          · subst hb; exact .inr ndx
          · rw [upd_ne hb] at q; exact .inl q)
      exact o' fp _ σ _ _ _ g2.f ((m.grow gr).grow g2) ⟨c, vs.reverse, ds.reverse, rfl, by rw [ca_of (G := gOf X) M.gC], (rv.mono s1).reverse, .inr ⟨dx, rfl, upd_same, by rw [List.length_reverse]; omega⟩⟩
  · exact o'.elim
end
section
variable {P : Program} {w : World} {K : PySem.W.Frag} {mg : Str → Option Value} {base : Heap} {C f : Addr} {fd : FuncData} {st : Stmt} {qual fn gn pn qn : Str}
theorem exc1_ok (F : Fun K "__init__" qual st f fd) (S : FnScope ([("self" : Str), pn]) ([("self" : Str), pn]) (defScope st)) (T : OexC K C) (no : PySem.W.findIn K (.ref C) fn = some none)
    (hb : ∀ X : Cx, X.N = [("self" : Str), pn] → X.env.scope = defScope st → PSs X (defBody st) (tOst X.K fn (tVar 0) (tVar 1))) : FnOk P w K mg base (L2.CX P w) 1 f fd [("self" : Str), pn] (spE C [fn]) := by
  refine F.okX S (fun vs H Q E ⟨a, ys, e, hl, _⟩ => by rw [e, List.length_cons, hl]; rfl) fun cdv A outer s H vs Q E hr ⟨a, ys, e, hl, ha, k⟩ => ?_
  subst e
  match ys, hl with
  | [y], _ => exact ⟨_, hb _ rfl rfl, _, rfl, _, rfl, a, C, rfl, T, no, .inl ⟨ha, fun dx nd ne => k dx nd ne⟩⟩
end
end Mir
namespace Mir
open PySem PySem.Spec PyProof.Rows L2
variable [Tn]
/-- the longest list that is looked after -/
def lim : Nat := 1000000
theorem lim_le : lim ≤ sizeLine := by rw [sizeLine_eq]; decide
section
variable {G : GC} {F H F' H' : Hp} {v : V} {d : D}
theorem RdD.grow (h : RdD G F H v d) (g : Grow F H F' H') : RdD G F' H' v d := h.elim (fun r => .inl (r.mono g.f)) fun ⟨A, o⟩ => .inr ⟨A, o.grow g⟩
theorem RdD.int {i : Int} (h : RdD G F H v (.int i)) : v = .int i := by
  rcases h with h | ⟨A, h⟩ <;> cases h
  rfl
theorem RdD.bl {i : Bool} (h : RdD G F H v (.bl i)) : v = .bl i := by
  rcases h with h | ⟨A, h⟩ <;> cases h
  rfl
theorem RdD.str {i : Str} (h : RdD G F H v (.str i)) : v = .str i := by
  rcases h with h | ⟨A, h⟩ <;> cases h
  rfl
theorem RdD.non (h : RdD G F H v .non) : v = .non := by
  rcases h with h | ⟨A, h⟩ <;> cases h
  rfl
theorem RdD.lst {ds : List D} (s : Same F H) (h : RdD G F H v (.lst ds)) : ∃ a vs, v = .ref a ∧ H a = some (.lst vs) ∧ RepAll G F vs ds := by
  rcases h with h | ⟨A, h⟩
  · cases h with
    | lst e r => exact ⟨_, _, rfl, s _ _ e, r⟩
  · cases h with
    | lst _ e _ r _ => exact ⟨_, _, rfl, e, r.to_rep.2⟩
theorem RdD.tupS {ds : List D} (h : RdD G F H v (.tup ds)) : Rep G F v (.tup ds) := by
  rcases h with h | ⟨A, h⟩
  · exact h
  · cases h with
    | tup e => cases e
theorem RdD.tup {ds : List D} (s : Same F H) (h : RdD G F H v (.tup ds)) : ∃ a vs, v = .ref a ∧ SqT G.K H a vs ∧ RepAll G F vs ds := by
  cases h.tupS with
  | tup e r => exact ⟨_, _, rfl, Same.sqT s e, r⟩
theorem RdD.scr {ns : List Int} (s : Same F H) (h : RdD G F H v (.scr ns)) : ∃ a, v = .ref a ∧ SqL G.K H a (ns.map V.int) := by
  rcases h with h | ⟨A, h⟩
  · cases h with
    | scr e => exact ⟨_, rfl, s.seq e⟩
  · cases h
theorem RdD.obj {c : Nat} {vs : List D} (s : Same F H) (h : RdD G F H v (.obj c vs)) : ∃ a dx fs, v = .ref a ∧ H a = some (.ins (G.ca c) dx fs) := by
  rcases h with h | ⟨A, h⟩
  · cases h with
    | obj e _ _ => exact ⟨_, _, _, rfl, s _ _ e⟩
  · cases h with
    | obj _ e _ _ _ _ => exact ⟨_, _, _, rfl, e⟩
theorem RdD.dic {ks vs : List D} (s : Same F H) (h : RdD G F H v (.dic ks vs)) : ∃ a o xs ws, v = .ref a ∧ H a = some (.ext (isObj' a o)) ∧ (a == sysModules) = false ∧ DicO G o xs ∧ Vals ws (xs.map (·.2.2)) ∧ RepAll G F (xs.map fun x => V.ref x.2.1) ks ∧ ks.map keyOf = xs.map (fun x => some x.1) ∧ RepAll G F ws vs := by
  rcases h with h | ⟨A, h⟩
  · cases h with
    | dic e z1 z2 z3 z4 z5 r => exact ⟨_, _, _, _, rfl, s _ _ e, z1, z2, z3, z4, z5, r⟩
  · cases h with
    | dic _ e _ z1 z2 z3 z4 z5 r _ => exact ⟨_, _, _, _, rfl, e, z1, z2, z3, z4, z5, r.to_rep.2⟩
/-- a new object, shared -/
theorem Grow.mk1 {p : Addr} {o : HO} (s : Same F H) (hp : H p = none) : Grow F H (upd F p o) (upd H p o) := Grow.of
  (fun b u q => by rw [upd_ne (ne_of_none q hp)]; exact q)
  (fun b u q => by rw [upd_ne (ne_of_none (s b u q) hp)]; exact q)
  (fun b u q => by
    by_cases hb : b = p
    · subst hb; rw [upd_same] at q ⊢; exact q
    · rw [upd_ne hb] at q ⊢; exact s b u q)
  (fun b u q => by
    by_cases hb : b = p
    · subst hb; exact .inr hp
    · rw [upd_ne hb] at q; exact .inl q)
/-- a new object, one's own -/
theorem Grow.own {p : Addr} {o : HO} (s : Same F H) (hp : H p = none) : Grow F H F (upd H p o) := Grow.of
  (fun b u q => by rw [upd_ne (ne_of_none q hp)]; exact q)
  (Same.refl _)
  (fun b u q => by rw [upd_ne (ne_of_none (s b u q) hp)]; exact s b u q)
  (fun b u q => .inl q)
end
def toPy : D → Option PyData
  | .non => some .none
  | .bl b => some (.bool b)
  | .int i => some (.int i)
  | .str s => some (.str s)
  | .tup xs => (toPys xs).map .tuple
  | .lst xs => (toPys xs).map .list
  | _ => none
where toPys : List D → Option (List PyData)
  | [] => some []
  | x :: xs => match toPy x, toPys xs with
    | some p, some ps => some (p :: ps)
    | _, _ => none
mutual
theorem Rep.dp {G : GC} {F H : Hp} (s : Same F H) : ∀ {v : V} {d : D} {p : PyData}, Rep G F v d → toPy d = some p → Dp G.K H v p
  | _, _, _, .non, e => by simp only [toPy, Option.some.injEq] at e; subst e; exact .non
  | _, _, _, .bl b, e => by simp only [toPy, Option.some.injEq] at e; subst e; exact .bl b
  | _, _, _, .int i, e => by simp only [toPy, Option.some.injEq] at e; subst e; exact .int i
  | _, _, _, .str x, e => by simp only [toPy, Option.some.injEq] at e; subst e; exact .str x
  | _, _, _, .tup h r, e => by
    simp only [toPy, Option.map_eq_some_iff] at e
    obtain ⟨ps, e1, e2⟩ := e
    subst e2
    exact .tup (Same.sqT s h) (RepAll.dp s r e1)
  | _, _, _, .lst h r, e => by
    simp only [toPy, Option.map_eq_some_iff] at e
    obtain ⟨ps, e1, e2⟩ := e
    subst e2
    exact .lst (.of (s _ _ h)) (RepAll.dp s r e1)
  | _, _, _, .scr _, e => by simp [toPy] at e
  | _, _, _, .dic _ _ _ _ _ _ _, e => by simp [toPy] at e
  | _, _, _, .obj _ _ _, e => by simp [toPy] at e
  | _, _, _, .exc _ _, e => by simp [toPy] at e
  | _, _, _, .excF _ _ _ _, e => by simp [toPy] at e
  | _, _, _, .cls _, e => by simp [toPy] at e
  | _, _, _, .ty _, e => by simp [toPy] at e
theorem RepAll.dp {G : GC} {F H : Hp} (s : Same F H) : ∀ {vs : List V} {ds : List D} {ps : List PyData}, RepAll G F vs ds → toPy.toPys ds = some ps → DpAll G.K H vs ps
  | _, _, _, .nil, e => by simp only [toPy.toPys, Option.some.injEq] at e; subst e; exact .nil
  | _, _, _, .cons r t, e => by
    rw [toPy.toPys] at e
    split at e
    · rename_i p ps h1 h2
      cases e
      exact .cons (Rep.dp s r h1) (RepAll.dp s t h2)
    · cases e
end
theorem RdD.dp {G : GC} {F H : Hp} {v : V} {d : D} {p : PyData} (s : Same F H) (h : RdD G F H v d) (e : toPy d = some p) : Dp G.K H v p := by
  rcases h with h | ⟨A, h⟩
  · exact h.dp s e
  · cases h with
    | lst _ h _ r _ =>
      simp only [toPy, Option.map_eq_some_iff] at e
      obtain ⟨ps, e1, e2⟩ := e
      subst e2
      exact .lst (.of h) (r.to_rep.2.dp s e1)
    | tup z => cases z
    | dic => simp [toPy] at e
    | obj => simp [toPy] at e
def addD : D → D → Res D
  | .int i, .int j => .ok (.int (i + j))
  | .str s, .str t => if s.length + t.length ≤ lim then .ok (.str (s ++ t)) else .bad
  | .tup xs, .tup ys => if xs.length + ys.length ≤ lim then .ok (.tup (xs ++ ys)) else .bad
  | .lst xs, .lst ys => if xs.length + ys.length ≤ lim then .ok (.lst (xs ++ ys)) else .bad
  | _, _ => .bad
def subD : D → D → Res D
  | .int i, .int j => .ok (.int (i - j))
  | _, _ => .bad
/-- the bits of a number -/
def bits (i : Int) : Nat := i.natAbs.log2
instance (i j : Int) : Decidable (CMul i j) := by unfold CMul; infer_instance
def mulD : D → D → Res D
  | .int i, .int j => if bits i + bits j < 1000000 ∨ CMul i j then .ok (.int (i * j)) else .bad
  | .lst xs, .int k => if k ≤ 1000 ∧ 0 ≤ k ∧ xs.length ≤ 1000 then .ok (.lst (List.replicate k.toNat xs).flatten) else .bad
  | .tup xs, .int k => if k ≤ 1000 ∧ 0 ≤ k ∧ xs.length ≤ 1000 then .ok (.tup (List.replicate k.toNat xs).flatten) else .bad
  | _, _ => .bad
def modD : D → D → Res D
  | .int i, .int j => if 0 < j then .ok (.int (i % j)) else .bad
  | _, _ => .bad
def divD : D → D → Res D
  | .int i, .int j => if 0 < j ∧ bits j < 9000 then .ok (.int (i / j)) else .bad
  | _, _ => .bad
def powD : D → D → Res D
  | .int i, .int j => if 0 ≤ j ∧ j ≤ 1000000 ∧ i.natAbs < 2 ^ 64 then .ok (.int (i ^ j.toNat)) else .bad
  | _, _ => .bad
def shrD : D → D → Res D
  | .int i, .int j => if 0 ≤ j then .ok (.int (i / 2 ^ j.toNat)) else .bad
  | _, _ => .bad
def cmpD (p : Int → Int → Bool) : D → D → Res D
  | .int i, .int j => .ok (.bl (p i j))
  | _, _ => .bad
def eqS (a b : D) : Res D := match toPy a, toPy b with
  | some p, some q => if SeqAt.shaped p = true ∧ SeqAt.shaped q = true then .ok (.bl (PyData.eqv p q)) else .bad
  | _, _ => .bad
def neS (a b : D) : Res D := match toPy a, toPy b with
  | some p, some q => if SeqAt.shaped p = true ∧ SeqAt.shaped q = true then .ok (.bl (!PyData.eqv p q)) else .bad
  | _, _ => .bad
section
variable {X : Cx}
theorem opD_I {rr : R2} {op : D → D → Res D} (h : ∀ a b d, op a b = .ok d → ∃ i j r, a = .int i ∧ b = .int j ∧ (∀ F, Rep (gOf X) F r d) ∧ ∀ (H : Hp) (Q : VK), Q r H → rr (.int i) (.int j) H Q) : OpD (gOf X) rr .R .R .S op := fun F H x y a b d Q Ha Hb s ka kb e k => by
  obtain ⟨i, j, r, rfl, rfl, hr, q⟩ := h a b d e
  rw [RdD.int (show RdD _ _ _ x _ from ka), RdD.int (show RdD _ _ _ y _ from kb)]
  exact q H Q (k r F H (Grow.refl s) (hr F))
theorem sub_ok : OpD (gOf X) (rI0 fun i j => .int (i - j)) .R .R .S subD := opD_I fun a b d e => by
  unfold subD at e
  split at e <;> cases e
  exact ⟨_, _, _, rfl, rfl, fun F => .int _, fun H Q q => ⟨_, _, rfl, rfl, q⟩⟩
theorem mod_ok : OpD (gOf X) (rI (fun _ j => 0 < j) fun i j => .int (i % j)) .R .R .S modD := opD_I fun a b d e => by
  unfold modD at e
  split at e
  · split at e <;> cases e
    rename_i h
    exact ⟨_, _, _, rfl, rfl, fun F => .int _, fun H Q q => ⟨_, _, rfl, rfl, h, q⟩⟩
  · cases e
theorem div_ok : OpD (gOf X) (rI CDivW fun i j => .int (i / j)) .R .R .S divD := opD_I fun a b d e => by
  unfold divD at e
  split at e
  · split at e <;> cases e
    rename_i h
    exact ⟨_, _, _, rfl, rfl, fun F => .int _, fun H Q q => ⟨_, _, rfl, rfl, h, q⟩⟩
  · cases e
theorem pow_ok : OpD (gOf X) (rI CPow fun i j => .int (i ^ j.toNat)) .R .R .S powD := opD_I fun a b d e => by
  unfold powD at e
  split at e
  · split at e <;> cases e
    rename_i h
    exact ⟨_, _, _, rfl, rfl, fun F => .int _, fun H Q q => ⟨_, _, rfl, rfl, h, q⟩⟩
  · cases e
theorem shr_ok : OpD (gOf X) (rI (fun _ j => 0 ≤ j) fun i j => .int (i / 2 ^ j.toNat)) .R .R .S shrD := opD_I fun a b d e => by
  unfold shrD at e
  split at e
  · split at e <;> cases e
    rename_i h
    exact ⟨_, _, _, rfl, rfl, fun F => .int _, fun H Q q => ⟨_, _, rfl, rfl, h, q⟩⟩
  · cases e
theorem cmp_ok {p : Int → Int → Bool} : OpD (gOf X) (rI0 fun i j => .bl (p i j)) .R .R .S (cmpD p) := opD_I fun a b d e => by
  unfold cmpD at e
  split at e <;> cases e
  exact ⟨_, _, _, rfl, rfl, fun F => .bl _, fun H Q q => ⟨_, _, rfl, rfl, q⟩⟩
theorem eq_ok : OpD (gOf X) (rEqD X.K) .R .R .S eqS := fun F H x y a b d Q Ha Hb s ka kb e k => by
  unfold eqS at e
  split at e
  · rename_i p q h1 h2
    split at e <;> cases e
    rename_i h
    exact ⟨p, q, RdD.dp s (show RdD (gOf X) F H x a from ka) h1, RdD.dp s (show RdD (gOf X) F H y b from kb) h2, h.1, h.2, k _ F H (Grow.refl s) (.bl _)⟩
  · cases e
theorem ne_ok : OpD (gOf X) (rNeD X.K) .R .R .S neS := fun F H x y a b d Q Ha Hb s ka kb e k => by
  unfold neS at e
  split at e
  · rename_i p q h1 h2
    split at e <;> cases e
    rename_i h
    exact ⟨p, q, RdD.dp s (show RdD (gOf X) F H x a from ka) h1, RdD.dp s (show RdD (gOf X) F H y b from kb) h2, h.1, h.2, k _ F H (Grow.refl s) (.bl _)⟩
  · cases e
def rAddA (K : PySem.W.Frag) : R2 := fun x y H Q => (rI0 (fun i j => .int (i + j)) x y H Q ∨ ∃ i j, x = .str i ∧ y = .str j ∧ i.length + j.length ≤ sizeLine ∧ Q (.str (i ++ j)) H) ∨ (rCatA K x y H Q ∨ rCat x y H Q)
theorem op_addA : OpR X (binaryOp .Add) (rAddA X.K) := (op_add.or op_add_str).or (op_catA.or op_cat)
theorem add_ok : OpD (gOf X) (rAddA X.K) .R .R .S addD := fun F H x y a b d Q Ha Hb s ka kb e k => by
  have ka : RdD (gOf X) F H x a := ka
  have kb : RdD (gOf X) F H y b := kb
  unfold addD at e
  split at e
  · cases e
    exact .inl (.inl ⟨_, _, ka.int, kb.int, k _ F H (Grow.refl s) (.int _)⟩)
  · split at e <;> cases e
    rename_i h
    exact .inl (.inr ⟨_, _, ka.str, kb.str, Nat.le_trans h lim_le, k _ F H (Grow.refl s) (.str _)⟩)
  · split at e <;> cases e
    rename_i h
    obtain ⟨p, vs, rfl, h1, r1⟩ := ka.tup s
    obtain ⟨q, ws, rfl, h2, r2⟩ := kb.tup s
    refine .inr (.inl ⟨p, q, vs, ws, rfl, rfl, h1, h2, Nat.le_trans (by rw [r1.length, r2.length]; exact h) lim_le, fun z => ?_, fun _ z => ?_, fun _ _ t ht => ?_⟩)
    · subst z
      cases r1
      exact k _ F H (Grow.refl s) kb.tupS
    · subst z
      cases r2
      rw [List.append_nil] at k
      exact k _ F H (Grow.refl s) ka.tupS
    · exact k _ _ _ (Grow.mk1 s ht) (Rep.tup (.of upd_same) ((r1.append r2).mono (Grow.mk1 s ht).f))
  · split at e <;> cases e
    rename_i h
    obtain ⟨p, vs, rfl, h1, r1⟩ := ka.lst s
    obtain ⟨q, ws, rfl, h2, r2⟩ := kb.lst s
    exact .inr (.inr ⟨p, q, vs, ws, rfl, rfl, h1, h2, Nat.le_trans (by rw [r1.length, r2.length]; exact h) lim_le, fun t ht => k _ _ _ (Grow.mk1 s ht) (Rep.lst upd_same ((r1.append r2).mono (Grow.mk1 s ht).f))⟩)
  · cases e
theorem rep_all {G : GC} {F : Hp} {vs : List V} {ds : List D} (r : RepAll G F vs ds) : ∀ n : Nat, RepAll G F (List.replicate n vs).flatten (List.replicate n ds).flatten
  | 0 => .nil
  | n + 1 => by
    rw [List.replicate_succ, List.flatten_cons, List.replicate_succ, List.flatten_cons]
    exact r.append (rep_all r n)
theorem tuple_mulOne (l : Addr) (items : Array Value) (n : Nat) (dd : Option Addr) (sl : Array (Option Value)) (x : Int) (u : Tok) (c0 : (decide (x < -(2 ^ 63)) || decide (x ≥ 2 ^ 63)) = false) (c1 : (items.isEmpty || x == 1) = true) :
    Meets (Builtin.«tuple.__mul__» ⟨[.ref l, .int x u], []⟩) (fun _ R s => s.heap.get? l = some { cls := .type "tuple", dict := dd, data := .seq items n, slots := sl } ∧
      R (.ok (.ret (Value.ref l))) s) :=
  .of_wp fun prog w A R s h => by
    obtain ⟨hp, g, d, tk, os⟩ := s
    obtain ⟨hl, h⟩ := h
    have f1 := AutoSeq1.idx_int
    wp_walk using wpAny_loadPart' hl
    repeat (first
      | (refine wpAny_ite_false (decide_eq_false (by rw [c0]; exact Bool.false_ne_true)) ?_; wp_walk using wpAny_loadPart' hl)
      | (refine wpAny_ite_true (decide_eq_true (by rw [c1])) ?_; wp_walk using wpAny_loadPart' hl))
    exact ⟨_, rfl, h⟩
theorem tuple_mulNone (l : Addr) (items : Array Value) (n : Nat) (dd : Option Addr) (sl : Array (Option Value)) (x : Int) (u : Tok) (c0 : (decide (x < -(2 ^ 63)) || decide (x ≥ 2 ^ 63)) = false) (c1 : (items.isEmpty || x == 1) = false) (c2 : (decide (x ≤ 0) || items.isEmpty) = true) :
    Meets (Builtin.«tuple.__mul__» ⟨[.ref l, .int x u], []⟩) (fun _ R s => s.heap.get? l = some { cls := .type "tuple", dict := dd, data := .seq items n, slots := sl } ∧
      R (.ok (.ret (Value.ref s.heap.objs.size))) { s with heap := s.heap.push { cls := Value.type "tuple", data := Data.seq #[] }, toks := s.toks }) :=
  .of_wp fun prog w A R s h => by
    obtain ⟨hp, g, d, tk, os⟩ := s
    obtain ⟨hl, h⟩ := h
    have f1 := AutoSeq1.idx_int
    wp_walk using wpAny_loadPart' hl
    repeat (first
      | (refine wpAny_ite_false (decide_eq_false (by rw [c0]; exact Bool.false_ne_true)) ?_; wp_walk using wpAny_loadPart' hl)
      | (refine wpAny_ite_false (decide_eq_false (by rw [c1]; exact Bool.false_ne_true)) ?_; wp_walk using wpAny_loadPart' hl)
      | (refine wpAny_ite_true (decide_eq_true (by rw [c2])) ?_; wp_walk using wpAny_loadPart' hl))
    exact ⟨_, rfl, h⟩
def rRepT1 (K : PySem.W.Frag) : R2 := fun x y H Q => ∃ l k xs, x = .ref l ∧ y = .int k ∧ SqT K H l xs ∧ (xs = [] ∨ k = 1) ∧ 0 ≤ k ∧ k ≤ 1000 ∧ Q (.ref l) H
def rRepT0 (K : PySem.W.Frag) : R2 := fun x y H Q => ∃ l xs, x = .ref l ∧ y = .int 0 ∧ SqT K H l xs ∧ xs ≠ [] ∧ ∀ p, H p = none → Q (.ref p) (upd H p (.tup []))
theorem op_repT1 {X : Cx} : OpR X (binaryOp .Mult) (rRepT1 X.K) := by
  intro pins s σ H x y v u Q I rx ry h
  obtain ⟨l, k, xs, rfl, rfl, hT, hne, h1, h2, q⟩ := h
  cases rx
  obtain ⟨t, rfl⟩ := ry
  obtain ⟨its, r, ⟨⟨cls, dd, data, sl⟩, ho, hc, n, hd⟩, hs⟩ := I.tuple hT
  simp only at hc hd
  subst hc hd
  have hle : its.length = xs.length := r.length.symm
  have c0 : (decide (k < -(2 ^ 63)) || decide (k ≥ 2 ^ 63)) = false := by
    rw [decide_eq_false (by omega), decide_eq_false (by omega)] <;> rfl
  have c1 : (its.toArray.isEmpty || k == 1) = true := by
    rcases hne with rfl | rfl
    · have : its = [] := List.eq_nil_of_length_eq_zero hle
      subst this
      rfl
    · simp
  refine wpAny_binaryOp_repeat_ref (T := "tuple") (U := "int") (by decide) ⟨_, ho, rfl⟩ (fun s' => typeIs_int s' k t) noFill_tuple_mul F.fills_int_mul F.slot_int_rmul repeat_tuple F.slot_int_index.lookup
    (call_meets F.slot_int_rmul (typeIs_int s k t) F.entry_int_rmul (F.args_int_rmul_2 _ _) (int_rmul_tuple k t l its.toArray n dd sl)
      ⟨ho, rfl, ⟨_, ho, rfl⟩, call_meets F.slot_tuple_mul ⟨_, ho, rfl⟩ F.entry_tuple_mul (F.args_tuple_mul_2 _ _) (tuple_mulOne l its.toArray n dd sl k t c0 c1) ⟨ho, ?_⟩⟩)
  exact ⟨.ref l, _, I, rfl, q⟩
theorem op_repT0 {X : Cx} : OpR X (binaryOp .Mult) (rRepT0 X.K) := by
  intro pins s σ H x y v u Q I rx ry h
  obtain ⟨l, xs, rfl, rfl, hT, hne, q⟩ := h
  cases rx
  obtain ⟨t, rfl⟩ := ry
  obtain ⟨its, r, ⟨⟨cls, dd, data, sl⟩, ho, hc, n, hd⟩, hs⟩ := I.tuple hT
  simp only at hc hd
  subst hc hd
  have hle : its.length = xs.length := r.length.symm
  have hn : its ≠ [] := fun e => hne (by
    rw [e] at hle
    exact List.eq_nil_of_length_eq_zero hle.symm)
  have hi : its.toArray.isEmpty = false := by
    cases its with
    | nil => exact absurd rfl hn
    | cons a b => rfl
  have c0 : (decide ((0 : Int) < -(2 ^ 63)) || decide ((0 : Int) ≥ 2 ^ 63)) = false := by decide
  have c1 : (its.toArray.isEmpty || (0 : Int) == 1) = false := by rw [hi]; rfl
  have c2 : (decide ((0 : Int) ≤ 0) || its.toArray.isEmpty) = true := by simp
  refine wpAny_binaryOp_repeat_ref (T := "tuple") (U := "int") (by decide) ⟨_, ho, rfl⟩ (fun s' => typeIs_int s' 0 t) noFill_tuple_mul F.fills_int_mul F.slot_int_rmul repeat_tuple F.slot_int_index.lookup
    (call_meets F.slot_int_rmul (typeIs_int s 0 t) F.entry_int_rmul (F.args_int_rmul_2 _ _) (int_rmul_tuple 0 t l its.toArray n dd sl)
      ⟨ho, rfl, ⟨_, ho, rfl⟩, call_meets F.slot_tuple_mul ⟨_, ho, rfl⟩ F.entry_tuple_mul (F.args_tuple_mul_2 _ _) (tuple_mulNone l its.toArray n dd sl 0 t c0 c1 c2) ⟨ho, ?_⟩⟩)
  refine ⟨.ref s.heap.objs.size, _, I.laid (t' := s.toks) (o := .tup []) (fun b ob q => Heap.get?_push_of_some _ q) (Nat.le_refl _) ?_, rfl, q _ (I.hok.fresh (Nat.le_refl _))⟩
  exact ⟨by rw [sizeLine_eq]; simp, [], .nil, IsTup.new _ _⟩
def rMulA (K : PySem.W.Frag) : R2 := fun x y H Q => (rI CMulW (fun i j => .int (i * j)) x y H Q ∨ rI CMul (fun i j => .int (i * j)) x y H Q) ∨ (rRep x y H Q ∨ (rRepT K x y H Q ∨ (rRepT1 K x y H Q ∨ rRepT0 K x y H Q)))
theorem op_mulA : OpR X (binaryOp .Mult) (rMulA X.K) := (op_mulW.or op_mul).or (op_rep.or (op_repT.or (op_repT1.or op_repT0)))
theorem mul_ok : OpD (gOf X) (rMulA X.K) .R .R .S mulD := fun F H x y a b d Q Ha Hb s ka kb e k => by
  have ka : RdD (gOf X) F H x a := ka
  have kb : RdD (gOf X) F H y b := kb
  unfold mulD at e
  split at e
  · split at e <;> cases e
    rename_i h
    rcases h with h | h
    · exact .inl (.inl ⟨_, _, ka.int, kb.int, h, k _ F H (Grow.refl s) (.int _)⟩)
    · exact .inl (.inr ⟨_, _, ka.int, kb.int, h, k _ F H (Grow.refl s) (.int _)⟩)
  · split at e <;> cases e
    rename_i h
    obtain ⟨p, vs, rfl, h1, r1⟩ := ka.lst s
    refine .inr (.inl ⟨p, _, vs, rfl, kb.int, h1, by omega, by omega, ?_, fun t ht => k _ _ _ (Grow.mk1 s ht) (Rep.lst upd_same ((rep_all r1 _).mono (Grow.mk1 s ht).f))⟩)
    rw [sizeLine_eq, r1.length]
    exact Nat.le_trans (Nat.mul_le_mul h.2.2 (show _ ≤ 1000 by omega)) (by decide)
  · split at e <;> cases e
    rename_i h
    obtain ⟨p, vs, rfl, h1, r1⟩ := ka.tup s
    rename_i xs0 k0 _ _
    by_cases e0 : vs = []
    · subst e0
      cases r1
      refine .inr (.inr (.inr (.inl ⟨p, _, [], rfl, kb.int, h1, .inl rfl, by omega, by omega, k _ F H (Grow.refl s) ?_⟩)))
      rw [show (List.replicate (Int.toNat _) ([] : List D)).flatten = [] by simp]
      exact (RdD.tupS ka)
    · by_cases e1 : k0 = 1
      · subst e1
        refine .inr (.inr (.inr (.inl ⟨p, _, vs, rfl, kb.int, h1, .inr rfl, by omega, by omega, k _ F H (Grow.refl s) ?_⟩)))
        rw [show (List.replicate (Int.toNat 1) xs0).flatten = xs0 by simp]
        exact (RdD.tupS ka)
      · by_cases e2 : k0 = 0
        · subst e2
          refine .inr (.inr (.inr (.inr ⟨p, vs, rfl, kb.int, h1, e0, fun t ht => k _ _ _ (Grow.mk1 s ht) ?_⟩)))
          rw [show (List.replicate (Int.toNat 0) xs0).flatten = ([] : List D) by simp]
          exact Rep.tup (.of upd_same) .nil
        · refine .inr (.inr (.inl ⟨p, _, vs, rfl, kb.int, h1, e0, by omega, by omega, by rw [r1.length]; omega, fun t ht => k _ _ _ (Grow.mk1 s ht) (Rep.tup (.of upd_same) ((rep_all r1 _).mono (Grow.mk1 s ht).f))⟩))
  · cases e
/-- x in xs, a list or tuple of data -/
def inS (x xs : D) : Res D := match toPy x, toPy xs with
  | some p, some (.list ps) => if SeqAt.shaped p = true ∧ SeqAt.shaped (.list ps) = true then .ok (.bl (ps.any fun z => PyData.eqv z p)) else .bad
  | _, _ => .bad
theorem in_ok : OpD (gOf X) (rInD X.K) .R .R .S inS := fun F H x y a b d Q Ha Hb s ka kb e k => by
  unfold inS at e
  split at e
  · rename_i p ps h1 h2
    split at e <;> cases e
    rename_i h
    exact ⟨p, ps, RdD.dp s (show RdD (gOf X) F H x a from ka) h1, RdD.dp s (show RdD (gOf X) F H y b from kb) h2, h.1, h.2, k _ F H (Grow.refl s) (.bl _)⟩
  · cases e
end
theorem ne_add : NoEr2 addD := fun a b e z => by unfold addD at z; split at z <;> (try split at z) <;> cases z
theorem ne_sub : NoEr2 subD := fun a b e z => by unfold subD at z; split at z <;> cases z
theorem ne_mul : NoEr2 mulD := fun a b e z => by unfold mulD at z; split at z <;> (try split at z) <;> cases z
theorem ne_mod : NoEr2 modD := fun a b e z => by unfold modD at z; split at z <;> (try split at z) <;> cases z
theorem ne_div : NoEr2 divD := fun a b e z => by unfold divD at z; split at z <;> (try split at z) <;> cases z
theorem ne_pow : NoEr2 powD := fun a b e z => by unfold powD at z; split at z <;> (try split at z) <;> cases z
theorem ne_shr : NoEr2 shrD := fun a b e z => by unfold shrD at z; split at z <;> (try split at z) <;> cases z
theorem ne_cmp {p : Int → Int → Bool} : NoEr2 (cmpD p) := fun a b e z => by unfold cmpD at z; split at z <;> cases z
theorem ne_eq : NoEr2 eqS := fun a b e z => by unfold eqS at z; split at z <;> (try split at z) <;> cases z
theorem ne_ne : NoEr2 neS := fun a b e z => by unfold neS at z; split at z <;> (try split at z) <;> cases z
theorem ne_in : NoEr2 inS := fun a b e z => by unfold inS at z; split at z <;> (try split at z) <;> cases z
section
variable {X : Cx} {W : Wi} {k : Nat} {a b c : Expr} {fa fb fc : Env → Res D} {pos : Pos}
theorem re_add (ha : RE X W .R a fa) (hb : RE X W .R b fb) : RE X W .S (.BinOp a .Add b pos) (fun r => fa r >>= fun x => fb r >>= fun y => addD x y) := re_op op_addA add_ok ne_add ha hb
theorem re_sub (ha : RE X W .R a fa) (hb : RE X W .R b fb) : RE X W .S (.BinOp a .Sub b pos) (fun r => fa r >>= fun x => fb r >>= fun y => subD x y) := re_op op_sub sub_ok ne_sub ha hb
theorem re_mul (ha : RE X W .R a fa) (hb : RE X W .R b fb) : RE X W .S (.BinOp a .Mult b pos) (fun r => fa r >>= fun x => fb r >>= fun y => mulD x y) := re_op op_mulA mul_ok ne_mul ha hb
theorem re_mod (ha : RE X W .R a fa) (hb : RE X W .R b fb) : RE X W .S (.BinOp a .Mod b pos) (fun r => fa r >>= fun x => fb r >>= fun y => modD x y) := re_op op_mod mod_ok ne_mod ha hb
theorem re_div (ha : RE X W .R a fa) (hb : RE X W .R b fb) : RE X W .S (.BinOp a .FloorDiv b pos) (fun r => fa r >>= fun x => fb r >>= fun y => divD x y) := re_op op_fdivW div_ok ne_div ha hb
theorem re_pow (ha : RE X W .R a fa) (hb : RE X W .R b fb) : RE X W .S (.BinOp a .Pow b pos) (fun r => fa r >>= fun x => fb r >>= fun y => powD x y) := re_op op_pow pow_ok ne_pow ha hb
theorem re_shr (ha : RE X W .R a fa) (hb : RE X W .R b fb) : RE X W .S (.BinOp a .RShift b pos) (fun r => fa r >>= fun x => fb r >>= fun y => shrD x y) := re_op op_shr shr_ok ne_shr ha hb
def ltD : D → D → Res D := cmpD fun i j => decide (i < j)
def leD : D → D → Res D := cmpD fun i j => decide (i ≤ j)
def gtD : D → D → Res D := cmpD fun i j => decide (j < i)
def geD : D → D → Res D := cmpD fun i j => decide (j ≤ i)
def asB : D → Res Bool
  | .bl b => .ok b
  | _ => .bad
/-- what a comparison by its sign is worth -/
structure Cmp (X : Cx) (o : CmpOp) (op : D → D → Res D) : Prop where
  ex : ∃ rr : R2, OpR X (compareOp o) rr ∧ OpD (gOf X) rr .R .R .S op
  ne : NoEr2 op
theorem c_lt : Cmp X .Lt ltD := ⟨⟨_, op_lt, cmp_ok⟩, ne_cmp⟩
theorem c_le : Cmp X .LtE leD := ⟨⟨_, op_le, cmp_ok⟩, ne_cmp⟩
theorem c_gt : Cmp X .Gt gtD := ⟨⟨_, op_gt, cmp_ok⟩, ne_cmp⟩
theorem units65 (hr : Room k X.A) : X.A.units + 65 < cLine := by have := hr.un; omega
theorem re_cp {o : CmpOp} {op : D → D → Res D} (C : Cmp X o op) (ha : RE X W .R a fa) (hb : RE X W .R b fb) (hm : behindInMarks o b = false := by first | exact nomark _ | rfl) : RE X W .S (.Compare a [o] [b] pos) (fun r => fa r >>= fun x => fb r >>= fun y => op x y) :=
  let ⟨_, h1, h2⟩ := C.ex
  re_cmp h1 h2 C.ne ha hb hm
theorem asB_er {d e : D} (h : asB d = .er e) : False := by unfold asB at h; split at h <;> cases h
/-- a truth as a test -/
theorem tB_of {t : TE} {f : Env → Res D} {G : GC} (σ : L2.St) (H : Hp) (Q : Bool → Hp → Prop) (i : ∀ R : VK, tE G W .S f σ H R → t σ H R) (h : tT G W (fun r => f r >>= asB) σ H Q) : tTest t σ H Q := by
  obtain ⟨H0, F0, fp, F, r, m, o⟩ := h
  refine i _ ⟨H0, F0, fp, F, r, m, o.bind fun F' H' d gr o2 v kv => ?_⟩
  cases e : asB d with
  | ok b =>
    rw [e] at o2
    unfold asB at e
    split at e <;> cases e
    cases kv
    exact ⟨b, rfl, o2 F' H' (Grow.refl gr.sub)⟩
  | er x => exact (asB_er e).elim
  | bad => rw [e] at o2; exact o2.elim
theorem rt_cp {o : CmpOp} {op : D → D → Res D} (C : Cmp X o op) (ha : RE X W .R a fa) (hb : RE X W .R b fb) (hm : behindInMarks o b = false := by first | exact nomark _ | rfl) : RT X W (.Compare a [o] [b] pos) (fun r => (fa r >>= fun x => fb r >>= fun y => op x y) >>= asB) :=
  let ⟨_, h1, h2⟩ := C.ex
  (pt_cmpR h1 ha hb hm).imp fun σ H Q h => tB_of σ H Q (fun R t => t_op h2 C.ne σ H R t) h
/-- an expression that is True or False as a test -/
theorem rt_val (ha : RE X W .S a fa) (he : ∀ whole, isTrue a X.env whole = (do let v ← whole; standAt a.pos; holding [v] (truthy v)) := by intro _; rfl) : RT X W a (fun r => fa r >>= asB) :=
  (pt_val ha he).imp fun σ H Q h => tB_of σ H Q (fun R t => t) h
theorem rt_not {f : Env → Res Bool} (ha : RT X W a f) : RT X W (.UnaryOp .Not a pos) (fun r => f r >>= fun t => .ok (!t)) :=
  (pt_not ha).imp fun σ H Q ⟨H0, F0, fp, F, r, m, o⟩ => ⟨H0, F0, fp, F, r, m, o.bind fun F' H' t gr o2 => o2 F' H' (Grow.refl gr.sub)⟩
abbrev RW (X : Cx) (W : Wi) (e : Expr) (f : Env → Res Bool) : Prop := PW X e (tT (gOf X) W f)
theorem rt_pw {f : Env → Res Bool} (h : RW X W a f) : RT X W a f := h.pt
theorem rw_and1 {f : Env → Res Bool} (ha : RT X W a f) : RW X W (.BoolOp .And [a] pos) f := pw_and1 ha
theorem rw_or1 {f : Env → Res Bool} (ha : RT X W a f) : RW X W (.BoolOp .Or [a] pos) f := pw_or1 ha
theorem rw_and {rest : List Expr} {f g : Env → Res Bool} (ha : RT X W a f) (hb : RW X W (.BoolOp .And (b :: rest) pos) g) : RW X W (.BoolOp .And (a :: b :: rest) pos) (fun r => f r >>= fun t => if t = true then g r else .ok false) :=
  (pw_and ha hb).imp fun σ H Q ⟨H0, F0, fp, F, r, m, o⟩ => ⟨H0, F0, fp, F, r, m, o.bind fun F' H' t gr o2 => by
    cases t with
    | true => exact ⟨H0, F0, fp, F', r, m.grow gr, o2⟩
    | false => exact o2 F' H' (Grow.refl gr.sub)⟩
theorem rw_or {rest : List Expr} {f g : Env → Res Bool} (ha : RT X W a f) (hb : RW X W (.BoolOp .Or (b :: rest) pos) g) : RW X W (.BoolOp .Or (a :: b :: rest) pos) (fun r => f r >>= fun t => if t = true then .ok true else g r) :=
  (pw_or ha hb).imp fun σ H Q ⟨H0, F0, fp, F, r, m, o⟩ => ⟨H0, F0, fp, F, r, m, o.bind fun F' H' t gr o2 => by
    cases t with
    | true => exact o2 F' H' (Grow.refl gr.sub)
    | false => exact ⟨H0, F0, fp, F', r, m.grow gr, o2⟩⟩
theorem re_one {op : BoolOp} (h : RE X W .S a fa) : RE X W .S (.BoolOp op [a] pos) fa := pe_one h
theorem re_and {rest : List Expr} (ha : RE X W .S a fa) (hb : RE X W .S (.BoolOp .And (b :: rest) pos) fb) : RE X W .S (.BoolOp .And (a :: b :: rest) pos) (fun r => (fa r >>= asB) >>= fun t => if t = true then fb r else .ok (.bl false)) :=
  (pe_and ha hb).imp fun σ H Q ⟨H0, F0, fp, F, r, m, o⟩ => by
    have z := tB_of (t := tE (gOf X) W .S fa) (f := fa) σ H (fun t H1 => if t = true then tE (gOf X) W .S fb σ H1 Q else Q (.bl false) H1) (fun R t => t) ⟨H0, F0, fp, F, r, m, o.bind fun F' H' t gr o2 => by
      cases t with
      | true => rw [if_pos rfl] at o2 ⊢; exact ⟨H0, F0, fp, F', r, m.grow gr, o2.imp fun F2 H2 d g2 p v kv => p v kv⟩
      | false => exact o2 F' H' (Grow.refl gr.sub) _ (Rep.bl false)⟩
    exact z
theorem re_not (ha : RE X W .S a fa) : RE X W .S (.UnaryOp .Not a pos) (fun r => (fa r >>= asB) >>= fun t => .ok (.bl (!t))) :=
  (pe_not ha).imp fun σ H Q ⟨H0, F0, fp, F, r, m, o⟩ => by
    have z := tB_of (t := tE (gOf X) W .S fa) (f := fa) σ H (fun t H1 => Q (.bl (!t)) H1) (fun R t => t) ⟨H0, F0, fp, F, r, m, o.bind fun F' H' t gr o2 => o2 F' H' (Grow.refl gr.sub) _ (Rep.bl _)⟩
    exact z
@[simp] def negD : D → Res D
  | .int i => .ok (.int (-i))
  | _ => .bad
theorem re_neg (ha : RE X W .R a fa) : RE X W .S (.UnaryOp .USub a pos) (fun r => fa r >>= negD) :=
  (pe_un un_neg ha).imp fun σ H Q ⟨H0, F0, fp, F, r, m, o⟩ => ⟨H0, F0, fp, F, r, m, o.bind fun F' H' d gr o2 v kv => by
    cases d with
    | int i => exact ⟨i, RdD.int kv, o2 F' H' (Grow.refl gr.sub) _ (Rep.int _)⟩
    | _ => exact o2.elim⟩
end
end Mir
namespace Mir
open PySem PySem.Spec PyProof.Rows L2
variable [Tn]
def ixS : D → D → Res D
  | .lst xs, .int i => match atI xs i with
    | some d => .ok d
    | none => .bad
  | .tup xs, .int i => match atI xs i with
    | some d => .ok d
    | none => .bad
  | .scr ns, .int i => match atI ns i with
    | some n => .ok (.int n)
    | none => .bad
  | .str z, .int i => if z.length ≤ lim then (match atI z.cps.toList i with
    | some c => .ok (.str ⟨#[c]⟩)
    | none => .bad) else .bad
  | _, _ => .bad
theorem atI_rep {G : GC} {F : Hp} {vs : List V} {ds : List D} {i : Int} {d : D} (r : RepAll G F vs ds) (h : atI ds i = some d) : ∃ v, atI vs i = some v ∧ Rep G F v d := by
  unfold atI at h ⊢
  rw [r.length]
  cases e : ixN ds.length i with
  | none => rw [e] at h; cases h
  | some j =>
    rw [e] at h
    exact r.get h
theorem atI_map {ns : List Int} {i n : Int} (h : atI ns i = some n) : atI (ns.map V.int) i = some (.int n) := by
  unfold atI at h ⊢
  rw [List.length_map]
  cases e : ixN ns.length i with
  | none => rw [e] at h; cases h
  | some j =>
    rw [e] at h
    show (ns.map V.int)[j]? = _
    rw [List.getElem?_map, show ns[j]? = some n from h]
    rfl
section
variable {X : Cx} {W : Wi} {k : Nat} {a b c e : Expr} {es : List Expr} {fa fb fc fe : Env → Res D} {p pos apos cpos : Pos}
theorem ix_ok : OpD (gOf X) (rIx X.K) .R .R .S ixS := fun F H x y a b d Q Ha Hb s ka kb e k => by
  have ka : RdD (gOf X) F H x a := ka
  have kb : RdD (gOf X) F H y b := kb
  unfold ixS at e
  split at e
  · split at e <;> cases e
    rename_i h
    obtain ⟨q, vs, rfl, h1, r1⟩ := ka.lst s
    obtain ⟨v, hv, rv⟩ := atI_rep r1 h
    exact .inl ⟨q, vs, _, v, rfl, kb.int, .of h1, hv, k _ F H (Grow.refl s) rv⟩
  · split at e <;> cases e
    rename_i h
    obtain ⟨q, vs, rfl, h1, r1⟩ := ka.tup s
    obtain ⟨v, hv, rv⟩ := atI_rep r1 h
    exact .inr (.inl ⟨q, vs, _, v, rfl, kb.int, h1, hv, k _ F H (Grow.refl s) rv⟩)
  · split at e <;> cases e
    rename_i h
    obtain ⟨q, rfl, h1⟩ := ka.scr s
    exact .inl ⟨q, _, _, _, rfl, kb.int, h1, atI_map h, k _ F H (Grow.refl s) (.int _)⟩
  · split at e
    · rename_i hl
      split at e <;> cases e
      rename_i h
      exact .inr (.inr ⟨_, _, _, ka.str, kb.int, Nat.le_trans hl lim_le, h, k _ F H (Grow.refl s) (.str _)⟩)
    · cases e
  · cases e
theorem ne_ix : NoEr2 ixS := fun a b e z => by
  unfold ixS at z
  split at z
  · split at z <;> cases z
  · split at z <;> cases z
  · split at z <;> cases z
  · split at z
    · split at z <;> cases z
    · cases z
  · cases z
def cutD (xs : List D) (lo hi : Option Int) : List D := (xs.drop (HT.sIx xs.length 0 lo)).take (HT.sIx xs.length xs.length hi - HT.sIx xs.length 0 lo)
@[simp] def asI : D → Res Int
  | .int i => .ok i
  | _ => .bad
def sliceD (d : D) (lo hi : Option Int) : Res D := match d with
  | .lst xs => .ok (.lst (cutD xs lo hi))
  | .tup xs => .ok (.tup (cutD xs lo hi))
  | .str z => if z.length ≤ lim then .ok (.str (cutS z lo hi)) else .bad
  | _ => .bad
theorem RepAll.cut {G : GC} {F : Hp} {vs : List V} {ds : List D} (r : RepAll G F vs ds) (lo hi : Option Int) : RepAll G F (cutV vs lo hi) (cutD ds lo hi) := by
  unfold cutV cutD
  rw [r.length]
  exact (r.drop _).take _
/-- a part of a slice -/
def tP (G : GC) (W : Wi) (f : Env → Res (Option Int)) : TO := fun σ H Q => ∃ H0 F0 fp F r, MS G W.J H0 F0 fp F σ H r ∧ Out G W σ F H (fun F' H' o => Q o H') (f r)
abbrev RP (X : Cx) (W : Wi) (e : Option Expr) (f : Env → Res (Option Int)) : Prop := PO X e (tP (gOf X) W f)
theorem PO.imp {X : Cx} {e : Option Expr} {t t' : TO} (h : PO X e t) (i : ∀ σ H Q, t' σ H Q → t σ H Q) : PO X e t' := ⟨fun pins s σ H Q I hw => h.run pins s σ H Q I (i σ H Q hw)⟩
theorem rp_none : RP X W none (fun _ => .ok none) := PO.imp po_none fun σ H Q ⟨H0, F0, fp, F, r, m, o⟩ => o F H (Grow.refl m.sub)
theorem rp_some (he : RE X W .R e fe) : RP X W (some e) (fun r => fe r >>= fun d => asI d >>= fun i => .ok (some i)) := PO.imp (po_some he) fun σ H Q ⟨H0, F0, fp, F, r, m, o⟩ => ⟨H0, F0, fp, F, r, m, o.bind fun F' H' d gr o2 v kv => by
  cases d with
  | int i => exact ⟨i, RdD.int kv, o2 F' H' (Grow.refl gr.sub)⟩
  | _ => exact o2.elim⟩
def rSlAll (K : PySem.W.Frag) : V → Option Int → Option Int → Hp → VK → Prop := fun x lo hi H Q => rSlL K x lo hi H Q ∨ (rSlA K x lo hi H Q ∨ ∃ z, x = .str z ∧ z.length ≤ sizeLine ∧ Q (.str (cutS z lo hi)) H)
theorem t_slice {f1 f2 : Env → Res (Option Int)} {Kk : Kd} {op : D → Option Int → Option Int → Res D} (ne : ∀ d lo hi e, op d lo hi ≠ .er e) {rr : V → Option Int → Option Int → Hp → VK → Prop}
    (ok : ∀ F H x a lo hi d (Q : VK), Same F H → RdD (gOf X) F H x a → op a lo hi = .ok d → (∀ v F' H', Grow F H F' H' → Kk.Rep (gOf X) H F' H' v d → Q v H') → rr x lo hi H Q)
    (σ : L2.St) (H : Hp) (Q : VK) (t : tE (gOf X) W Kk (fun r => fa r >>= fun d => f1 r >>= fun lo => f2 r >>= fun hi => op d lo hi) σ H Q) : tSl rr (tE (gOf X) W .R fa) (tP (gOf X) W f1) (tP (gOf X) W f2) σ H Q := by
  obtain ⟨H0, F0, fp, F, r, m, o⟩ := t
  refine ⟨H0, F0, fp, F, r, m, o.bind fun F1 H1 d g1 o1 v kv => ⟨H0, F0, fp, F1, r, m.grow g1, o1.bind fun F2 H2 lo g2 o2 => ⟨H0, F0, fp, F2, r, (m.grow g1).grow g2, o2.bind fun F3 H3 hi g3 o3 => ?_⟩⟩⟩
  cases e : op d lo hi with
  | ok d' =>
    rw [e] at o3
    exact ok F3 H3 v d lo hi d' Q g3.sub (RdD.grow (show RdD (gOf X) F1 H1 v d from kv) (g2.trans g3)) e fun v' F' H' g q => o3 F' H' g v' (q.later (g1.h.trans (g2.h.trans g3.h)).fre)
  | er x => exact (ne _ _ _ _ e).elim
  | bad => rw [e] at o3; exact o3.elim
theorem re_slice {f1 f2 : Env → Res (Option Int)} {lo hi : Option Expr} {p2 : Pos} (ha : RE X W .R a fa) (hl : RP X W lo f1) (hh : RP X W hi f2) : RE X W .S (.Subscript a (.Slice lo hi none p2) pos) (fun r => fa r >>= fun d => f1 r >>= fun lo => f2 r >>= fun hi => sliceD d lo hi) :=
  (pe_slice (r := rSlAll X.K) (sl_list.or (sl_tupA.or sl_str)) ha hl hh).imp (t_slice (fun d lo hi e z => by unfold sliceD at z; split at z <;> (try split at z) <;> cases z) fun F H x a lo hi d Q s ka e k => by
    unfold sliceD at e
    split at e
    · cases e
      obtain ⟨q, vs, rfl, h1, r1⟩ := ka.lst s
      exact .inl ⟨q, vs, rfl, .of h1, fun t ht => k _ _ _ (Grow.mk1 s ht) (Rep.lst upd_same ((r1.cut lo hi).mono (Grow.mk1 s ht).f))⟩
    · cases e
      obtain ⟨q, vs, rfl, h1, r1⟩ := ka.tup s
      refine .inr (.inl ⟨q, vs, rfl, h1, fun w => ?_, fun _ t ht => k _ _ _ (Grow.mk1 s ht) (Rep.tup (.of upd_same) ((r1.cut lo hi).mono (Grow.mk1 s ht).f))⟩)
      rename_i ds
      have e : cutD ds lo hi = ds := by
        unfold cutD
        rw [r1.length] at w
        rw [w.1, w.2]
        simp
      rw [e] at k
      exact k _ F H (Grow.refl s) ka.tupS
    · split at e <;> cases e
      rename_i h
      exact .inr (.inr ⟨_, ka.str, Nat.le_trans h lim_le, k _ F H (Grow.refl s) (.str _)⟩)
    · cases e)
theorem re_tup {x1} {f : Env → Res (List D)} (ha : RA X W es f) : RE X W .S (.Tuple es x1 pos) (fun r => f r >>= fun ds => if ds.length ≤ lim then .ok (.tup ds) else .bad) :=
  (pe_tup ha).imp fun σ H Q ⟨H0, F0, fp, F, r, m, o⟩ => ⟨H0, F0, fp, F, r, m, o.bind fun F' H' ds gr o2 vs rv => by
    split at o2
    · rename_i h
      exact ⟨Nat.le_trans (by rw [rv.length]; exact h) lim_le, fun t ht => o2 _ _ (Grow.mk1 gr.sub ht) _ (Rep.tup (.of upd_same) (rv.mono (Grow.mk1 gr.sub ht).f))⟩
    · exact o2.elim⟩
theorem re_lst {f : Env → Res (List D)} (ha : RA X W es f) : RE X W (.O .flat) (.List es pos) (fun r => f r >>= fun ds => if ds.length ≤ lim then .ok (.lst ds) else .bad) :=
  (pe_lst ha).imp fun σ H Q ⟨H0, F0, fp, F, r, m, o⟩ => ⟨H0, F0, fp, F, r, m, o.bind fun F' H' ds gr o2 vs rv => by
    split at o2
    · rename_i h
      exact ⟨Nat.le_trans (by rw [rv.length]; exact h) lim_le, fun t ht => o2 _ _ (Grow.own gr.sub ht) _ ⟨[t], Own.lst rfl upd_same (gr.sub.free ht) (OwnAll.of_rep rv) (by simp), fun a ha => by rw [List.mem_singleton.mp ha]; exact gr.h.free ht⟩⟩
    · exact o2.elim⟩
end
end Mir
namespace Mir
open PySem PySem.Spec PyProof.Rows L2
variable [Tn]
inductive RdAll (G : GC) (F H : Hp) : List V → List D → Prop
  | nil : RdAll G F H [] []
  | cons {v : V} {d : D} {vs : List V} {ds : List D} : RdD G F H v d → RdAll G F H vs ds → RdAll G F H (v :: vs) (d :: ds)
def tAR (G : GC) (W : Wi) (f : Env → Res (List D)) : TA := fun σ H Q => ∃ H0 F0 fp F r, MS G W.J H0 F0 fp F σ H r ∧ Out G W σ F H (fun F' H' ds => ∀ vs, RdAll G F' H' vs ds → Q vs H') (f r)
/-- arguments to be read -/
abbrev RAR (X : Cx) (W : Wi) (es : List Expr) (f : Env → Res (List D)) : Prop := PA X es (tAR (gOf X) W f)
def CalD (G : GC) (rr : List V → Hp → VK → Prop) (k : Kd) (op : List D → Res D) : Prop := ∀ (F H : Hp) (vs : List V) (ds : List D) (d : D) (Q : VK), Same F H → RdAll G F H vs ds → op ds = .ok d → (∀ v F' H', Grow F H F' H' → k.Rep G H F' H' v d → Q v H') → rr vs H Q
def NoErL (op : List D → Res D) : Prop := ∀ ds e, op ds ≠ .er e
/-- a built-in by its name -/
structure BlM (X : Cx) (x : Str) (k : Kd) (op : List D → Res D) : Prop where
  mg : X.mg x = none
  ex : ∃ rr : List V → Hp → VK → Prop, CalD (gOf X) rr k op ∧ ((∃ id, bootBuiltins x = some (.builtin id) ∧ CallR X (.builtin id) rr) ∨ ∃ T, bootBuiltins x = some (.type T) ∧ CallR X (.type T) rr)
  ne : NoErL op
  n1 : x ≠ "__name__"
  n2 : (x == ("__debug__" : Str)) = false
section
variable {X : Cx} {W : Wi} {k : Kd} {e : Expr} {es : List Expr} {fe : Env → Res D} {p pos : Pos}
theorem rar_nil : RAR X W [] (fun _ => .ok []) := pa_nil.imp fun σ H Q ⟨H0, F0, fp, F, r, m, o⟩ => o F H (Grow.refl m.sub) [] .nil
theorem RdAll.grow {G : GC} {F H F' H' : Hp} (g : Grow F H F' H') : ∀ {vs : List V} {ds : List D}, RdAll G F H vs ds → RdAll G F' H' vs ds
  | _, _, .nil => .nil
  | _, _, .cons r t => .cons (r.grow g) (RdAll.grow g t)
theorem rar_cons {g : Env → Res (List D)} (he : RE X W .R e fe) (hr : RAR X W es g) (hs : starEach (e :: es) X.env = (false, eval e X.env) :: starEach es X.env := by rfl) :
    RAR X W (e :: es) (fun r => fe r >>= fun d => g r >>= fun ds => .ok (d :: ds)) :=
  (pa_cons he hr hs).imp fun σ H Q ⟨H0, F0, fp, F, r, m, o⟩ => ⟨H0, F0, fp, F, r, m, o.bind fun F1 H1 d g1 o1 v kv =>
    ⟨H0, F0, fp, F1, r, m.grow g1, o1.bind fun F2 H2 ds g2 o2 vs rv => o2 F2 H2 (Grow.refl g2.sub) (v :: vs) (.cons (RdD.grow kv g2) rv)⟩⟩
theorem t_bl {rr : List V → Hp → VK → Prop} {op : List D → Res D} (h : CalD (gOf X) rr k op) (ne : NoErL op) {fa : Env → Res (List D)} (σ : L2.St) (H : Hp) (Q : VK) (t : tE (gOf X) W k (fun r => fa r >>= op) σ H Q) : tCB rr (tAR (gOf X) W fa) σ H Q := by
  obtain ⟨H0, F0, fp, F, r, m, o⟩ := t
  refine ⟨H0, F0, fp, F, r, m, o.bind fun F' H' ds gr o2 vs rv => ?_⟩
  cases z : op ds with
  | ok d =>
    rw [z] at o2
    exact h F' H' vs ds d Q gr.sub rv z fun v F2 H2 g kv => o2 F2 H2 g v (kv.later gr.h.fre)
  | er x => exact (ne _ _ z).elim
  | bad => rw [z] at o2; exact o2.elim
theorem re_blt {x : Str} {op : List D → Res D} {fa : Env → Res (List D)} (B : BlM X x k op) (ha : RAR X W (e :: es) fa) (hg : Gl X x := by rfl) (he : starEach (e :: es) X.env = (false, eval e X.env) :: starEach es X.env := by rfl) (hpl : (backTo pos (starEach es X.env)).any (·.1) = false := by rfl) :
    RE X W k (.Call (.Name x p) (e :: es) [] pos) (fun r => fa r >>= op) := by
  obtain ⟨rr, hc, ⟨id, hv, hr⟩ | ⟨T, hv, hr⟩⟩ := B.ex
  · exact (pe_callB hr hg B.mg hv ha B.n1 B.n2 he hpl).imp (t_bl hc B.ne)
  · exact (pe_callTy hr hg B.mg hv ha B.n1 B.n2 he hpl).imp (t_bl hc B.ne)
theorem BlM.b {x : Str} {id : String} {rr : List V → Hp → VK → Prop} {op : List D → Res D} (hm : X.mg x = none) (hv : bootBuiltins x = some (.builtin id)) (hr : CallR X (.builtin id) rr) (ne : NoErL op) (c : CalD (gOf X) rr k op) (n1 : x ≠ "__name__" := by decide) (n2 : (x == ("__debug__" : Str)) = false := by decide) : BlM X x k op :=
  ⟨hm, ⟨rr, c, .inl ⟨id, hv, hr⟩⟩, ne, n1, n2⟩
theorem BlM.t {x : Str} {T : String} {rr : List V → Hp → VK → Prop} {op : List D → Res D} (hm : X.mg x = none) (hv : bootBuiltins x = some (.type T)) (hr : CallR X (.type T) rr) (ne : NoErL op) (c : CalD (gOf X) rr k op) (n1 : x ≠ "__name__" := by decide) (n2 : (x == ("__debug__" : Str)) = false := by decide) : BlM X x k op :=
  ⟨hm, ⟨rr, c, .inr ⟨T, hv, hr⟩⟩, ne, n1, n2⟩
@[simp] def one (f : D → Res D) : List D → Res D
  | [d] => f d
  | _ => .bad
@[simp] def two (f : D → D → Res D) : List D → Res D
  | [d, e] => f d e
  | _ => .bad
def noEr1 (f : D → Res D) : Prop := ∀ d e, f d ≠ .er e
theorem ne_one {f : D → Res D} (h : noEr1 f) : NoErL (one f) := fun ds e z => by
  unfold one at z
  split at z
  · exact h _ _ z
  · cases z
theorem ne_two {f : D → D → Res D} (h : NoEr2 f) : NoErL (two f) := fun ds e z => by
  unfold two at z
  split at z
  · exact h _ _ _ z
  · cases z
theorem cal_one {G : GC} {rr : List V → Hp → VK → Prop} {f : D → Res D} (h : ∀ (F H : Hp) (x : V) (a d : D) (Q : VK), Same F H → RdD G F H x a → f a = .ok d → (∀ v F' H', Grow F H F' H' → k.Rep G H F' H' v d → Q v H') → rr [x] H Q) : CalD G rr k (one f) := fun F H vs ds d Q s r e q => by
  unfold one at e
  split at e
  · cases r with
    | cons r1 rn =>
      cases rn
      exact h F H _ _ d Q s r1 e q
  · cases e
theorem cal_two {G : GC} {rr : List V → Hp → VK → Prop} {f : D → D → Res D} (h : ∀ (F H : Hp) (x y : V) (a b d : D) (Q : VK), Same F H → RdD G F H x a → RdD G F H y b → f a b = .ok d → (∀ v F' H', Grow F H F' H' → k.Rep G H F' H' v d → Q v H') → rr [x, y] H Q) : CalD G rr k (two f) := fun F H vs ds d Q s r e q => by
  unfold two at e
  split at e
  · cases r with
    | cons r1 rn =>
      cases rn with
      | cons r2 rn =>
        cases rn
        exact h F H _ _ _ _ d Q s r1 r2 e q
  · cases e
@[simp] def tupleD : D → Res D
  | .lst xs => .ok (.tup xs)
  | .tup xs => .ok (.tup xs)
  | _ => .bad
@[simp] def listD : D → Res D
  | .lst xs => .ok (.lst xs)
  | .tup xs => .ok (.lst xs)
  | _ => .bad
theorem b_tuple (hm : X.mg "tuple" = none) : BlM X "tuple" .S (one tupleD) := BlM.t hm boot_tuple (call_tuple_of) (ne_one fun d e z => by unfold tupleD at z; split at z <;> cases z) (cal_one fun F H x a d Q s ra e q => by
  unfold tupleD at e
  split at e <;> cases e
  · obtain ⟨p, vs, rfl, h1, r1⟩ := ra.lst s
    exact ⟨p, vs, rfl, .inl ⟨.of h1, fun t ht => q _ _ _ (Grow.mk1 s ht) (Rep.tup (.of upd_same) (r1.mono (Grow.mk1 s ht).f))⟩⟩
  · obtain ⟨p, vs, rfl, h1, r1⟩ := ra.tup s
    exact ⟨p, vs, rfl, .inr ⟨h1, q _ F H (Grow.refl s) ra.tupS⟩⟩)
def intD : D → Res D
  | .int i => .ok (.int i)
  | .bl b => .ok (.int (if b = true then 1 else 0))
  | .str s => match PySem.intText? s with
    | some n => if s.length ≤ 640 then .ok (.int n) else .bad
    | none => .bad
  | _ => .bad
theorem ne_int : noEr1 intD := fun d e z => by
  unfold intD at z
  split at z
  · cases z
  · cases z
  · split at z
    · split at z <;> cases z
    · cases z
  · cases z
theorem b_int (hm : X.mg "int" = none) : BlM X "int" .S (one intD) := BlM.t hm boot_int (call_int1.or call_int_str) (ne_one ne_int) (cal_one fun F H x a d Q s ra e q => by
  unfold intD at e
  split at e
  · cases e
    exact .inl (.inl ⟨_, by rw [ra.int], q _ F H (Grow.refl s) (Rep.int _)⟩)
  · cases e
    exact .inl (.inr ⟨_, by rw [ra.bl], q _ F H (Grow.refl s) (Rep.int _)⟩)
  · split at e
    · rename_i n hn
      split at e <;> cases e
      rename_i hl
      exact .inr ⟨_, n, by rw [ra.str], hn, hl, q _ F H (Grow.refl s) (Rep.int _)⟩
    · cases e
  · cases e)
def asInts : List D → Option (List Int)
  | [] => some []
  | .int i :: ds => (asInts ds).map (i :: ·)
  | _ :: _ => none
def sumD : D → Res D
  | .scr ns => .ok (.int ns.sum)
  | .lst ds => match asInts ds with
    | some ns => .ok (.int ns.sum)
    | none => .bad
  | _ => .bad
theorem boot_all' : bootBuiltins "all" = some (.builtin "all") := by decide +kernel
theorem boot_any' : bootBuiltins "any" = some (.builtin "any") := by decide +kernel
end
end Mir
namespace Mir
open PySem PySem.Spec PyProof.Rows L2
variable [Tn]
section
variable {G : GC} {J : L2.St → Prop} {H0 F0 F H : Hp} {fp : Nat → List Addr} {σ : L2.St} {r : Env}
theorem MS.lst (m : MS G J H0 F0 fp F σ H r) {i : Nat} {ds : List D} (h : r[i]? = some (.ow .flat (.lst ds))) : ∃ a vs, σ[i]? = some (some (.ref a)) ∧ H a = some (.lst vs) ∧ RepAll G F vs ds ∧ fp i = [a] := by
  obtain ⟨⟨v, h1, h2⟩, _⟩ := m.ow i _ _ h
  generalize fp i = A at h2
  cases h2 with
  | lst _ e _ ra na =>
    obtain ⟨rfl, rr⟩ := ra.to_rep
    exact ⟨_, _, h1, e, rr, rfl⟩
/-- an owned list is changed -/
theorem MS.lstUpd (m : MS G J H0 F0 fp F σ H r) {i : Nat} {ds ds' : List D} {a : Addr} {vs' : List V} (h : r[i]? = some (.ow .flat (.lst ds))) (hv : σ[i]? = some (some (.ref a))) (hf : fp i = [a]) (rr : RepAll G F vs' ds') :
    ∃ fp', MS G J H0 F0 fp' F σ (upd H a (.lst vs')) (r.set i (.ow .flat (.lst ds'))) := by
  obtain ⟨⟨v, h1, h2⟩, _⟩ := m.ow i _ _ h
  have fa := (h2.there a (by rw [hf]; simp)).1
  exact m.write (A := [a]) h hv (by rw [hf]; simp) (Own.lst rfl upd_same fa (OwnAll.of_rep rr) (by simp)) fun b hb => .inl (by rw [hf]; exact hb)
end
/-- the list that the i-th name owns -/
def ownL (i : Nat) (r : Env) : Option (List D) := match r[i]? with
  | some (.ow .flat (.lst ds)) => some ds
  | _ => none
theorem ownL_some {i : Nat} {r : Env} {ds : List D} (h : ownL i r = some ds) : r[i]? = some (.ow .flat (.lst ds)) := by
  unfold ownL at h
  split at h
  · rename_i e; cases h; exact e
  · cases h
def appG (i : Nat) (f : Env → Res D) (r : Env) : Oc := match ownL i r with
  | some ds => lift (f r) r fun d => if ds.length < lim then .nx (r.set i (.ow .flat (.lst (ds ++ [d])))) else .bad
  | none => .bad
def extG (i : Nat) (f : Env → Res D) (r : Env) : Oc := match ownL i r with
  | some ds => lift (f r) r fun d => match d with
    | .lst es => if ds.length + es.length ≤ lim then .nx (r.set i (.ow .flat (.lst (ds ++ es)))) else .bad
    | _ => .bad
  | none => .bad
def revG (i : Nat) (r : Env) : Oc := match ownL i r with
  | some ds => .nx (r.set i (.ow .flat (.lst ds.reverse)))
  | none => .bad
section
variable {X : Cx} {W : Wi} {k : Kd} {e : Expr} {fe : Env → Res D} {pos apos cpos ps : Pos} {x : Str}
theorem rs_append (i : Nat) (he : RE X W .S e fe) (hN : X.N[i]? = some x := by rfl) (hv : Vis X.env.scope x := by first | exact Or.inl rfl | exact Or.inr (Or.inl rfl) | exact Or.inr (Or.inr rfl)) (hd : (x == ("__debug__" : Str)) = false := by decide)
    (hcd : (x == ("__classdict__" : Str)) = false := by decide) (hs : swapsWith (.Call (.Attribute (.Name x ps) "append" apos) [e] [] cpos) none pos.line X.env = pure false := by rfl)
    (hbase : attributeBase (.Name x ps) "append" X.env (eval (.Name x ps) X.env) = eval (.Name x ps) X.env := by rfl)
    (hfew : ((backTo cpos (starEach [e] X.env)).all (fun x => !x.1) && (backToKw cpos (keywordEach [] X.env)).all (fun x => x.1.isSome) && decide ([e].length + ([] : List Keyword).length + (if ([] : List Keyword).isEmpty then 0 else 1) < 30)) = true := by rfl)
    (hline : (apos.endLine == cpos.line) = true := by rfl) (hse : starEach [e] X.env = (false, eval e X.env) :: starEach [] X.env := by rfl) :
    RS X W k (.Expr (.Call (.Attribute (.Name x ps) "append" apos) [e] [] cpos) pos) (appG i fe) :=
  (ps_expr (pe_bm PySem.F.plainAttrs_list PySem.F.slot_list_append PySem.F.type_list_append mt_append (pe_var hN hv hd hcd) (pa_cons he pa_nil hse) hbase hfew hline hse (by rfl)) hs).imp fun D σ H ⟨H0, F0, fp, F, r, m, o⟩ => by
    unfold appG at o
    split at o
    · rename_i ds ho
      have hi := ownL_some ho
      obtain ⟨a, vs, h1, h2, h3, h4⟩ := m.lst hi
      refine ⟨.ref a, h1, Or.inl ⟨rfl, _, .of h2⟩, H0, F0, fp, F, r, m, o.lift m fun F' H' d gr o' v kv => ?_⟩
      split at o'
      · rename_i hl
        obtain ⟨fp', m'⟩ := (m.grow gr).lstUpd hi h1 h4 ((h3.mono gr.f).append (.cons kv .nil))
        exact ⟨a, vs, v, rfl, rfl, gr.h.at _ _ h2, Nat.lt_of_lt_of_le (by rw [h3.length]; exact hl) lim_le, o' fp' F' σ _ (Same.refl _) m'⟩
      · exact o'.elim
    · exact o.elim
theorem rs_extend (i : Nat) (he : RE X W .S e fe) (hN : X.N[i]? = some x := by rfl) (hv : Vis X.env.scope x := by first | exact Or.inl rfl | exact Or.inr (Or.inl rfl) | exact Or.inr (Or.inr rfl)) (hd : (x == ("__debug__" : Str)) = false := by decide)
    (hcd : (x == ("__classdict__" : Str)) = false := by decide) (hs : swapsWith (.Call (.Attribute (.Name x ps) "extend" apos) [e] [] cpos) none pos.line X.env = pure false := by rfl)
    (hbase : attributeBase (.Name x ps) "extend" X.env (eval (.Name x ps) X.env) = eval (.Name x ps) X.env := by rfl)
    (hfew : ((backTo cpos (starEach [e] X.env)).all (fun x => !x.1) && (backToKw cpos (keywordEach [] X.env)).all (fun x => x.1.isSome) && decide ([e].length + ([] : List Keyword).length + (if ([] : List Keyword).isEmpty then 0 else 1) < 30)) = true := by rfl)
    (hline : (apos.endLine == cpos.line) = true := by rfl) (hse : starEach [e] X.env = (false, eval e X.env) :: starEach [] X.env := by rfl) :
    RS X W k (.Expr (.Call (.Attribute (.Name x ps) "extend" apos) [e] [] cpos) pos) (extG i fe) :=
  (ps_expr (pe_bm PySem.F.plainAttrs_list PySem.F.slot_list_extend PySem.F.type_list_extend mt_extend (pe_var hN hv hd hcd) (pa_cons he pa_nil hse) hbase hfew hline hse (by rfl)) hs).imp fun D σ H ⟨H0, F0, fp, F, r, m, o⟩ => by
    unfold extG at o
    split at o
    · rename_i ds ho
      have hi := ownL_some ho
      obtain ⟨a, vs, h1, h2, h3, h4⟩ := m.lst hi
      refine ⟨.ref a, h1, Or.inl ⟨rfl, _, .of h2⟩, H0, F0, fp, F, r, m, o.lift m fun F' H' d gr o' v kv => ?_⟩
      split at o'
      · rename_i es
        split at o'
        · rename_i hl
          have kv' : Rep (gOf X) F' v (.lst es) := kv
          cases kv' with
          | @lst b ws _ hb rb =>
            obtain ⟨fp', m'⟩ := (m.grow gr).lstUpd hi h1 h4 ((h3.mono gr.f).append rb)
            exact ⟨a, b, vs, ws, rfl, rfl, gr.h.at _ _ h2, gr.sub _ _ hb, Nat.le_trans (by rw [h3.length, rb.length]; exact hl) lim_le, o' fp' F' σ _ (Same.refl _) m'⟩
        · exact o'.elim
      · exact o'.elim
    · exact o.elim
theorem rs_reverse (i : Nat) (hN : X.N[i]? = some x := by rfl) (hv : Vis X.env.scope x := by first | exact Or.inl rfl | exact Or.inr (Or.inl rfl) | exact Or.inr (Or.inr rfl)) (hd : (x == ("__debug__" : Str)) = false := by decide)
    (hcd : (x == ("__classdict__" : Str)) = false := by decide) (hs : swapsWith (.Call (.Attribute (.Name x ps) "reverse" apos) [] [] cpos) none pos.line X.env = pure false := by rfl)
    (hbase : attributeBase (.Name x ps) "reverse" X.env (eval (.Name x ps) X.env) = eval (.Name x ps) X.env := by rfl) (hline : (apos.endLine == cpos.line) = true := by rfl) :
    RS X W k (.Expr (.Call (.Attribute (.Name x ps) "reverse" apos) [] [] cpos) pos) (revG i) :=
  (ps_expr (pe_bm0 PySem.F.plainAttrs_list PySem.F.slot_list_reverse PySem.F.type_list_reverse mt_reverse (pe_var hN hv hd hcd) hbase hline) hs).imp fun D σ H ⟨H0, F0, fp, F, r, m, o⟩ => by
    unfold revG at o
    split at o
    · rename_i ds ho
      have hi := ownL_some ho
      obtain ⟨a, vs, h1, h2, h3, h4⟩ := m.lst hi
      obtain ⟨fp', m'⟩ := m.lstUpd hi h1 h4 h3.reverse
      exact ⟨.ref a, h1, Or.inl ⟨rfl, _, .of h2⟩, a, vs, rfl, rfl, h2, o fp' F σ _ (Same.refl _) m'⟩
    · exact o.elim
theorem re_gInt {i : Int} {t : Tok} (hm : X.mg x = some (.int i t)) (hg : Gl X x := by rfl) (hd : (x == ("__debug__" : Str)) = false := by decide) : RE X W .S (.Name x pos) (fun _ => .ok (.int i)) := re_cst (pe_glob (v := .int i) hg hm ⟨t, rfl⟩ hd) fun _ => .int i
/-- a built-in type as a value -/
theorem re_ty {T : String} (hm : X.mg x = none) (hv : bootBuiltins x = some (.type T)) (hg : Gl X x := by rfl) (hn : x ≠ "__name__" := by decide) (hd : (x == ("__debug__" : Str)) = false := by decide) : RE X W .S (.Name x pos) (fun _ => .ok (.ty T)) :=
  re_cst (pe_bltn (v := .ty T) hg hm hv rfl hn hd) fun _ => .ty T
end
end Mir
namespace Mir
open PySem PySem.Spec PyProof.Rows L2
variable [Tn]
theorem WalkD.of_walk {G : GC} {F B : Hp} {J : It} {ds : List D} {n : Nat} {g : Hp → Prop} {Y : Nat → Hp → V → Hp → Prop} (w : Walk J n g Y) (hn : n = ds.length) (hg : ∀ H, Same B H → g H)
    (hy : ∀ (i : Nat) F2 H2 x H3, i < ds.length → Same F F2 → Same F2 H2 → Same B H2 → Y i H2 x H3 → ∃ F3 d, Grow F2 H2 F3 H3 ∧ ds[i]? = some d ∧ Rep G F3 x d) : WalkD G F B J ds := by
  subst hn
  exact ⟨fun i H hi s => w.goes i H hi (hg H s), fun H s => w.stops H (hg H s), fun i F2 H2 x H3 hi s1 s2 s3 y => hy i F2 H2 x H3 hi s1 s2 s3 (w.yields i H2 x H3 hi (hg H2 s3) y)⟩
theorem WalkD.list {G : GC} {F B : Hp} {a : Addr} {vs : List V} {ds : List D} (h : B a = some (.lst vs)) (r : RepAll G F vs ds) : WalkD G F B (Itl G.K a) ds :=
  .of_walk walk_list r.length (fun H s => .of (s _ _ h)) fun i F2 H2 x H3 hi s1 s2 _ ⟨e1, e2⟩ => by
    subst e1
    obtain ⟨d, h1, h2⟩ := r.getV e2
    exact ⟨F2, d, Grow.refl s2, h1, h2.mono s1⟩
theorem WalkD.tup {G : GC} {F B : Hp} {a : Addr} {vs : List V} {ds : List D} (h : SqT G.K B a vs) (r : RepAll G F vs ds) : WalkD G F B (Itt G.K a) ds :=
  .of_walk walk_tup r.length (fun H s => Same.sqT s h) fun i F2 H2 x H3 hi s1 s2 _ ⟨e1, e2⟩ => by
    subst e1
    obtain ⟨d, h1, h2⟩ := r.getV e2
    exact ⟨F2, d, Grow.refl s2, h1, h2.mono s1⟩
theorem WalkD.scr {G : GC} {F B : Hp} {a : Addr} {ns : List Int} (h : SqL G.K B a (ns.map V.int)) : WalkD G F B (Itl G.K a) (ns.map D.int) :=
  .of_walk walk_list (by simp) (fun H s => s.seq h) fun i F2 H2 x H3 hi s1 s2 _ ⟨e1, e2⟩ => by
    subst e1
    rw [List.getElem?_map, Option.map_eq_some_iff] at e2
    obtain ⟨n, h1, h2⟩ := e2
    subst h2
    exact ⟨F2, .int n, Grow.refl s2, by rw [List.getElem?_map, h1]; rfl, .int n⟩
def signsOf (z : Str) : List D := z.cps.toList.map fun c => D.str ⟨#[c]⟩
theorem WalkD.str {G : GC} {F B : Hp} {z : Str} : WalkD G F B (Its z) (signsOf z) :=
  .of_walk walk_str (by simp [signsOf]) (fun _ _ => trivial) fun i F2 H2 x H3 hi s1 s2 _ ⟨e1, c, e2, e3⟩ => by
    subst e1 e3
    refine ⟨F2, .str ⟨#[c]⟩, Grow.refl s2, ?_, .str _⟩
    unfold signsOf
    rw [List.getElem?_map, Array.getElem?_toList, e2]
    rfl
def rangeL (lo : Int) (n : Nat) : List D := (List.range n).map fun i => D.int (lo + (i : Nat))
theorem WalkD.range {G : GC} {F B : Hp} {lo : Int} {n : Nat} : WalkD G F B (Itr lo n) (rangeL lo n) :=
  .of_walk walk_range (by simp [rangeL]) (fun _ _ => trivial) fun i F2 H2 x H3 hi s1 s2 _ ⟨e1, e2⟩ => by
    subst e1 e2
    refine ⟨F2, .int (lo + i), Grow.refl s2, ?_, .int _⟩
    have hi' : i < n := by simpa [rangeL] using hi
    unfold rangeL
    rw [List.getElem?_map, List.getElem?_range hi']
    rfl
@[simp] def itemsS : D → Res (List D)
  | .lst xs => .ok xs
  | .tup xs => .ok xs
  | .scr ns => .ok (ns.map D.int)
  | .str z => .ok (signsOf z)
  | _ => .bad
section
variable {X : Cx} {W : Wi} {e tg : Expr} {fe : Env → Res D} {p pos tpos : Pos}
theorem re_iterS (he : RE X W .S e fe) : RI X W true tg e (fun r => fe r >>= itemsS) := by
  refine ⟨fun pins s σ H R I ⟨H0, F0, fp, F, r, m, o⟩ => ?_⟩
  have o : Out (gOf X) W σ F H _ (fe r >>= itemsS) := o
  cases ef : fe r with
  | er x => exact (pi_list he).run pins s σ H R I ⟨H0, F0, fp, F, r, m, by rw [ef] at o ⊢; exact o⟩
  | bad => rw [ef] at o; exact o.elim
  | ok d =>
    rw [ef] at o
    cases d with
    | lst ds => exact (pi_list he).run pins s σ H R I ⟨H0, F0, fp, F, r, m, by
        rw [ef]
        intro F' H' gr v kv
        have kv' : Rep (gOf X) F' v (.lst ds) := kv
        cases kv' with
        | lst h1 r1 => exact ⟨_, rfl, ⟨_, .of (gr.sub _ _ h1)⟩, o F' H' gr _ (WalkD.list h1 r1)⟩⟩
    | tup ds => exact (pi_tup he).run pins s σ H R I ⟨H0, F0, fp, F, r, m, by
        rw [ef]
        intro F' H' gr v kv
        have kv' : Rep (gOf X) F' v (.tup ds) := kv
        cases kv' with
        | tup h1 r1 => exact ⟨_, rfl, ⟨_, Same.sqT gr.sub h1⟩, o F' H' gr _ (WalkD.tup h1 r1)⟩⟩
    | scr ns => exact (pi_list he).run pins s σ H R I ⟨H0, F0, fp, F, r, m, by
        rw [ef]
        intro F' H' gr v kv
        have kv' : Rep (gOf X) F' v (.scr ns) := kv
        cases kv' with
        | scr h1 => exact ⟨_, rfl, ⟨_, gr.sub.seq h1⟩, o F' H' gr _ (WalkD.scr h1)⟩⟩
    | str z => exact (pi_str he).run pins s σ H R I ⟨H0, F0, fp, F, r, m, by
        rw [ef]
        intro F' H' gr v kv
        have kv' : Rep (gOf X) F' v (.str z) := kv
        cases kv'
        exact ⟨z, rfl, o F' H' gr _ WalkD.str⟩⟩
    | _ => exact o.elim
theorem re_iterRS (he : RE X W .R e fe) : RI X W false tg e (fun r => fe r >>= itemsS) := by
  refine ⟨fun pins s σ H R I ⟨H0, F0, fp, F, r, m, o⟩ => ?_⟩
  have o : Out (gOf X) W σ F H _ (fe r >>= itemsS) := o
  cases ef : fe r with
  | er x => exact (pi_list he).run pins s σ H R I ⟨H0, F0, fp, F, r, m, by rw [ef] at o ⊢; exact o⟩
  | bad => rw [ef] at o; exact o.elim
  | ok d =>
    rw [ef] at o
    cases d with
    | lst ds => exact (pi_list he).run pins s σ H R I ⟨H0, F0, fp, F, r, m, by
        rw [ef]
        intro F' H' gr v kv
        obtain ⟨a, vs, rfl, h1, r1⟩ := RdD.lst gr.sub (show RdD (gOf X) F' H' v _ from kv)
        exact ⟨_, rfl, ⟨_, .of h1⟩, o F' H' gr _ (WalkD.list (nT_at h1) r1)⟩⟩
    | tup ds => exact (pi_tup he).run pins s σ H R I ⟨H0, F0, fp, F, r, m, by
        rw [ef]
        intro F' H' gr v kv
        obtain ⟨a, vs, rfl, h1, r1⟩ := RdD.tup gr.sub (show RdD (gOf X) F' H' v _ from kv)
        exact ⟨_, rfl, ⟨_, h1⟩, o F' H' gr _ (WalkD.tup (sqT_nT h1) r1)⟩⟩
    | scr ns => exact (pi_list he).run pins s σ H R I ⟨H0, F0, fp, F, r, m, by
        rw [ef]
        intro F' H' gr v kv
        obtain ⟨a, rfl, h1⟩ := RdD.scr gr.sub (show RdD (gOf X) F' H' v _ from kv)
        exact ⟨_, rfl, ⟨_, h1⟩, o F' H' gr _ (WalkD.scr (sqL_nT h1))⟩⟩
    | str z => exact (pi_str he).run pins s σ H R I ⟨H0, F0, fp, F, r, m, by
        rw [ef]
        intro F' H' gr v kv
        rw [RdD.str (show RdD (gOf X) F' H' v _ from kv)]
        exact ⟨z, rfl, o F' H' gr _ WalkD.str⟩⟩
    | _ => exact o.elim
/-- range(n), range(m, n) in the sizes that are walked -/
def rng1 : List D → Res (List D)
  | [.int n] => if -1000000000 ≤ n ∧ n ≤ 1000000000 then .ok (rangeL 0 n.toNat) else .bad
  | _ => .bad
theorem rng1_inv {ds : List D} : (∃ n, ds = [.int n] ∧ (-1000000000 ≤ n ∧ n ≤ 1000000000) ∧ rng1 ds = .ok (rangeL 0 n.toNat)) ∨ rng1 ds = .bad := by
  unfold rng1
  split
  · split
    · rename_i n h; exact .inl ⟨n, rfl, h, rfl⟩
    · exact .inr rfl
  · exact .inr rfl
theorem ri_range1 {b : Bool} {a : Expr} {fa : Env → Res (List D)} (hm : X.mg "range" = none) (ha : RAR X W [a] fa) (hg : Gl X "range" := by rfl) (hs : starEach [a] X.env = [(false, eval a X.env)] := by rfl) : RI X W b tg (.Call (.Name "range" p) [a] [] pos) (fun r => fa r >>= rng1) := by
  refine ⟨fun pins s σ H R I ⟨H0, F0, fp, F, r, m, o⟩ => (pi_range1 hg hm ha hs).run pins s σ H R I ⟨H0, F0, fp, F, r, m, o.bind fun F' H' ds gr o2 vs rv => ?_⟩⟩
  rcases rng1_inv (ds := ds) with ⟨n, rfl, hn, e⟩ | e
  · rw [e] at o2
    cases rv with
    | cons r1 rr =>
      cases rr
      exact ⟨n, by rw [RdD.int r1], by omega, by omega, o2 F' H' (Grow.refl gr.sub) _ WalkD.range⟩
  · rw [e] at o2; exact o2.elim
/-- what a block raises is not looked after -/
def nE {α : Type} : Res α → Res α
  | .ok a => .ok a
  | _ => .bad
@[simp] theorem nE_ok {α : Type} (a : α) : nE (.ok a) = .ok a := rfl
theorem nE_some {α : Type} {x : Res α} {a : α} (h : nE x = .ok a) : x = .ok a := by
  cases x <;> first | exact h | cases h
def lcD (g : D → Env → Res Env) (t : Env → Res Bool) (f : Env → Res D) (r : Env) : List D → Res (List D)
  | [] => .ok []
  | d :: ds => nE (g d r) >>= fun r1 => nE (t r1) >>= fun b => if b = true then nE (f r1) >>= fun x => lcD g t f r ds >>= fun xs => .ok (x :: xs) else lcD g t f r ds
@[simp] def lstD (ds : List D) : Res D := if ds.length ≤ lim then .ok (.lst ds) else .bad
/-- the block's own names forgotten -/
def wipeR (r : Env) : List Nat → Env
  | [] => r
  | v :: vs => (wipeR r vs).set v .un
theorem MS.wipe {G : GC} {J J' : L2.St → Prop} {H0 F0 F H : Hp} {fp : Nat → List Addr} {σ : L2.St} {r : Env} (m : MS G J H0 F0 fp F σ H r) : ∀ (vs : List Nat), J' (L2.wipe σ vs) → MS G J' H0 F0 fp F (L2.wipe σ vs) H (wipeR r vs)
  | vs, j => by
    have len : ∀ vs : List Nat, (wipeR r vs).length = r.length := fun vs => by
      induction vs with
      | nil => rfl
      | cons v vs ih => rw [wipeR, List.length_set, ih]
    have some1 : ∀ (vs : List Nat) {i : Nat} {s : Slot}, (wipeR r vs)[i]? = some s → s ≠ .un → r[i]? = some s ∧ i ∉ vs := fun vs => by
      induction vs with
      | nil => exact fun h _ => ⟨h, by simp⟩
      | cons v vs ih =>
        intro i s h ne
        rcases get_set_slot h with ⟨_, x, _⟩ | ⟨n, h⟩
        · exact absurd x.symm ne
        · obtain ⟨h1, h2⟩ := ih h ne
          exact ⟨h1, by simp only [List.mem_cons, not_or]; exact ⟨Ne.symm n, h2⟩⟩
    have keep : ∀ (vs : List Nat) {i : Nat}, i ∉ vs → (L2.wipe σ vs)[i]? = σ[i]? := fun vs => by
      induction vs with
      | nil => exact fun _ => rfl
      | cons v vs ih =>
        intro i h
        simp only [List.mem_cons, not_or] at h
        unfold L2.wipe
        rw [List.getElem?_set_ne (Ne.symm h.1)]
        exact ih h.2
    exact {
      jo := j
      s0 := m.s0
      t0 := m.t0
      f0 := m.f0
      sub := m.sub
      new := m.new
      len := by rw [len, m.len, wipe_length]
      sh := fun i d h => by
        obtain ⟨h1, h2⟩ := some1 vs h (by simp)
        rw [keep vs h2]
        exact m.sh i d h1
      ow := fun i s d h => by
        obtain ⟨h1, h2⟩ := some1 vs h (by simp)
        rw [keep vs h2]
        exact m.ow i s d h1
      ap := fun i k s t d e ne h1 h2 => m.ap i k s t d e ne (some1 vs h1 (by simp)).1 (some1 vs h2 (by simp)).1 }
theorem MS.mapJ {G : GC} {J J' : L2.St → Prop} {H0 F0 F H : Hp} {fp : Nat → List Addr} {σ : L2.St} {r : Env} (m : MS G J H0 F0 fp F σ H r) (j : J' σ) : MS G J' H0 F0 fp F σ H r := ⟨j, m.s0, m.f0, m.sub, m.new, m.len, m.sh, m.ow, m.ap, m.t0⟩
theorem wipe_wipe : ∀ (vs : List Nat) (σ : L2.St), L2.wipe (L2.wipe σ vs) vs = L2.wipe σ vs := fun vs σ => by
  have at1 : ∀ (vs : List Nat) (σ : L2.St) (i : Nat), (L2.wipe σ vs)[i]? = if i ∈ vs then σ[i]?.map fun _ => none else σ[i]? := fun vs => by
    induction vs with
    | nil => intro σ i; simp [L2.wipe]
    | cons v vs ih =>
      intro σ i
      unfold L2.wipe
      by_cases h : v = i
      · subst h
        rw [if_pos List.mem_cons_self]
        by_cases hv : v < (L2.wipe σ vs).length
        · rw [List.getElem?_set_self hv]
          rw [wipe_length] at hv
          rw [List.getElem?_eq_getElem hv]
          rfl
        · rw [List.getElem?_eq_none (by simpa using hv)]
          rw [wipe_length] at hv
          rw [List.getElem?_eq_none (by simpa using hv)]
          rfl
      · rw [List.getElem?_set_ne h, ih]
        simp only [List.mem_cons, show (i = v) = False from eq_false (Ne.symm h), false_or]
  apply List.ext_getElem?
  intro i
  rw [at1, at1]
  by_cases h : i ∈ vs
  · rw [if_pos h, if_pos h]
    cases σ[i]? <;> rfl
  · rw [if_neg h]
theorem wipe_set {vs : List Nat} {i : Nat} (hi : i ∈ vs) (σ : L2.St) (v : Option V) : L2.wipe (σ.set i v) vs = L2.wipe σ vs := by
  induction vs generalizing i with
  | nil => cases hi
  | cons w vs ih =>
    unfold L2.wipe
    by_cases h : i ∈ vs
    · rw [ih h]
    · have e : i = w := by simpa [h] using hi
      subst e
      have z : ∀ (vs : List Nat) (σ : L2.St), i ∉ vs → L2.wipe (σ.set i v) vs = (L2.wipe σ vs).set i v := fun vs => by
        induction vs with
        | nil => exact fun _ _ => rfl
        | cons x vs ih =>
          intro σ h
          simp only [List.mem_cons, not_or] at h
          unfold L2.wipe
          rw [ih σ h.2, List.set_comm _ _ h.1]
      rw [z vs σ h, List.set_set]
abbrev W0 : Wi := ⟨fun _ _ _ _ => False, fun _ => True⟩
abbrev JB (vs : List Nat) (σ : L2.St) : L2.St → Prop := fun τ => L2.wipe τ vs = L2.wipe σ vs
theorem jb {i : Nat} {vs : List Nat} {σ0 : L2.St} (hi : i ∈ vs) : ∀ (σ : L2.St) (v : Option V), JB vs σ0 σ → JB vs σ0 (σ.set i v) := fun σ v h => (wipe_set hi σ v).trans h
theorem Out.nE {G : GC} {W W' : Wi} {σ τ : L2.St} {α : Type} {F H : Hp} {P : Hp → Hp → α → Prop} {x : Res α} {a : α} (e : nE x = .ok a) (h : ∀ F' H', Grow F H F' H' → P F' H' a) : Out G W σ F H P x := by
  rw [nE_some e]
  exact h
theorem t_lc {G : GC} {b : Bool} {fi : Env → Res (List D)} {g : D → Env → Res Env} {t : Env → Res Bool} {f : Env → Res D} {vs : List Nat} (σ : L2.St) (H : Hp) (Q : VK)
    (h : tE G W (.O .flat) (fun r => fi r >>= fun ds => lcD g t f (wipeR r vs) ds >>= lstD) σ H Q) : tLc (tI G W b fi) (tGd G (JB vs σ) g) (tT G W0 t) (tE G W0 .S f) vs σ H Q := by
  obtain ⟨H0, F0, fp, F, r, m, o⟩ := h
  refine ⟨H0, F0, fp, F, r, m, o.bind fun F1 H1 ds g1 o1 J w D hD => ?_⟩
  cases e : lcD g t f (wipeR r vs) ds with
  | er x =>
    exfalso
    have z : ∀ (ds : List Mir.D) (x : Mir.D), lcD g t f (wipeR r vs) ds ≠ .er x := fun ds => by
      induction ds with
      | nil => exact fun x h => nomatch h
      | cons d ds ih =>
        intro x h
        rw [lcD] at h
        cases e1 : nE (g d (wipeR r vs)) with
        | er y => cases hg : g d (wipeR r vs) <;> (rw [hg] at e1; cases e1)
        | bad => rw [e1] at h; cases h
        | ok r1 =>
          rw [e1] at h
          simp only [ok_bind] at h
          cases e2 : nE (t r1) with
          | er y => cases hg : t r1 <;> (rw [hg] at e2; cases e2)
          | bad => rw [e2] at h; cases h
          | ok bb =>
            rw [e2] at h
            simp only [ok_bind] at h
            cases bb with
            | false => exact ih x h
            | true =>
              rw [if_pos rfl] at h
              cases e3 : nE (f r1) with
              | er y => cases hg : f r1 <;> (rw [hg] at e3; cases e3)
              | bad => rw [e3] at h; cases h
              | ok y =>
                rw [e3] at h
                simp only [ok_bind] at h
                cases e4 : lcD g t f (wipeR r vs) ds with
                | er z => exact ih z e4
                | bad => rw [e4] at h; cases h
                | ok zs => rw [e4] at h; cases h
    exact z _ _ e
  | bad => rw [e] at o1; exact o1.elim
  | ok out =>
    rw [e] at o1
    have hl : out.length ≤ lim := by
      by_cases h : out.length ≤ lim
      · exact h
      · simp only [ok_bind] at o1
        unfold lstD at o1
        rw [if_neg h] at o1
        exact o1.elim
    have o2 : ∀ F' H', Grow F1 H1 F' H' → ∀ v, (Kd.O .flat).Rep G H F' H' v (.lst out) → Q v H' := by
      have o1' : Out G W σ F1 H1 _ (lstD out) := o1
      unfold lstD at o1'
      rw [if_pos hl] at o1'
      exact o1'
    clear o1
    have gD : Grow F1 H1 F1 (upd H1 D (.lst [])) := Grow.own g1.sub hD
    refine ⟨fun i mm H => mm = ds.length - i ∧ i ≤ ds.length ∧ ∃ F acc accD rest, Grow F1 H1 F H ∧ F D = none ∧ H D = some (.lst acc) ∧ RepAll G F acc accD ∧ lcD g t f (wipeR r vs) (ds.drop i) = .ok rest ∧ out = accD ++ rest,
      ⟨ds.length, by simp, Nat.zero_le _, F1, [], [], out, gD, g1.sub.free hD, upd_same, .nil, by rw [List.drop_zero]; exact e, by simp⟩, ?_⟩
    rintro i mm H2 ⟨rfl, hi, F2, acc, accD, rest, g2, nD, hD2, ra, el, eo⟩
    have sB : Same (if b = true then F1 else nT H1) H2 := by
      cases b with
      | true => rw [if_pos rfl]; exact g2.f.trans g2.sub
      | false => exact g2.h.nT
    by_cases hlt : i < ds.length
    · refine .inr ⟨w.goes i H2 hlt sB, fun H' => i + 1 ≤ ds.length ∧ ∃ F acc accD rest, Grow F1 H1 F H' ∧ F D = none ∧ H' D = some (.lst acc) ∧ RepAll G F acc accD ∧ lcD g t f (wipeR r vs) (ds.drop (i + 1)) = .ok rest ∧ out = accD ++ rest,
        fun H' q => ⟨ds.length - (i + 1), by omega, rfl, q.1, q.2⟩, fun x H3 y => ?_⟩
      obtain ⟨F3, d, g3, ed, rx⟩ := w.yields i F2 H2 x H3 hlt g2.f g2.sub sB y
      have e1 : ds.drop i = d :: ds.drop (i + 1) := by
        rw [List.drop_eq_getElem_cons hlt]
        rw [List.getElem?_eq_getElem hlt] at ed
        rw [Option.some.inj ed]
      rw [e1, lcD] at el
      have nD3 : F3 D = none := by
        cases z : F3 D with
        | none => rfl
        | some u =>
          rcases g3.new D u z with q | q
          · rw [nD] at q; cases q
          · rw [hD2] at q; cases q
      cases eg : nE (g d (wipeR r vs)) with
      | er y => rw [eg] at el; cases el
      | bad => rw [eg] at el; cases el
      | ok r1 =>
        rw [eg] at el
        simp only [ok_bind] at el
        have m3 := ((m.grow g1).grow g2).grow g3
        refine ⟨H0, F0, fp, F3, wipeR r vs, d, m3.wipe vs (wipe_wipe vs σ), rx, r1, nE_some eg, fun fp4 σ4 m4 => ⟨m4.jo, ?_⟩⟩
        cases et : nE (t r1) with
        | er y => rw [et] at el; cases el
        | bad => rw [et] at el; cases el
        | ok bb =>
          rw [et] at el
          simp only [ok_bind] at el
          refine ⟨H0, F0, fp4, F3, r1, m4.mapJ trivial, Out.nE (W' := W0) (τ := σ) et fun F5 H5 g5 => ?_⟩
          have g25 := g2.trans (g3.trans g5)
          have D5 : H5 D = some (.lst acc) := g5.h.at _ _ (g3.h.at _ _ hD2)
          have nD5 : F5 D = none := by
            cases z : F5 D with
            | none => rfl
            | some u =>
              rcases g5.new D u z with q | q
              · rw [nD3] at q; cases q
              · rw [g3.h.at _ _ hD2] at q; cases q
          cases bb with
          | false => exact ⟨hlt, F5, acc, accD, rest, g25, nD5, D5, ra.mono (g3.f.trans g5.f), el, eo⟩
          | true =>
            rw [if_pos rfl] at el
            show tE G W0 .S f σ4 H5 _
            cases ex : nE (f r1) with
            | er y => rw [ex] at el; cases el
            | bad => rw [ex] at el; cases el
            | ok dx =>
              rw [ex] at el
              simp only [ok_bind] at el
              cases er : lcD g t f (wipeR r vs) (ds.drop (i + 1)) with
              | er y => rw [er] at el; cases el
              | bad => rw [er] at el; cases el
              | ok rest' =>
                rw [er] at el
                have er2 : rest = dx :: rest' := (Res.ok.inj el).symm
                subst er2
                refine ⟨H0, F0, fp4, F5, r1, (m4.mapJ trivial).grow g5, Out.nE (W' := W0) (τ := σ) ex fun F6 H6 g6 v kv => ⟨acc, g6.h.at _ _ D5, ?_, hlt, F6, acc ++ [v], accD ++ [dx], rest', ?_, ?_, upd_same, (ra.mono ((g3.f.trans g5.f).trans g6.f)).append (.cons kv .nil), rfl, by rw [eo]; simp⟩⟩
                · have hle : acc.length < out.length := by rw [eo, ra.length]; simp
                  exact Nat.lt_of_lt_of_le hle (Nat.le_trans hl lim_le)
                · have g26 := g25.trans g6
                  have nD6 : F6 D = none := by
                    cases z : F6 D with
                    | none => rfl
                    | some u =>
                      rcases g6.new D u z with q | q
                      · rw [nD5] at q; cases q
                      · rw [D5] at q; cases q
                  exact ⟨g26.h.upd hD, g26.f, fun b u q => by rw [upd_ne (ne_of_none q nD6)]; exact g26.sub b u q, g26.new⟩
                · cases z : F6 D with
                  | none => rfl
                  | some u =>
                    rcases g6.new D u z with q | q
                    · rw [nD5] at q; cases q
                    · rw [D5] at q; cases q
    · have ei : i = ds.length := by omega
      subst ei
      rw [List.drop_length] at el
      cases el
      rw [List.append_nil] at eo
      subst eo
      exact .inl ⟨w.stops H2 sB, o2 F2 H2 g2 _ ⟨[D], Own.lst rfl hD2 nD (OwnAll.of_rep ra) (by simp), fun a ha => by rw [List.mem_singleton.mp ha]; exact g1.h.free hD⟩⟩
abbrev RTs (X : Cx) (W : Wi) (es : List Expr) (f : Env → Res Bool) : Prop := PTs X es (tT (gOf X) W f)
theorem PTs.imp {es : List Expr} {t t' : TT} (h : PTs X es t) (i : ∀ σ H Q, t' σ H Q → t σ H Q) : PTs X es t' := ⟨fun pins s σ H Q I hw => h.run pins s σ H Q I (i σ H Q hw)⟩
theorem rts_nil : RTs X W [] (fun _ => .ok true) := PTs.imp pts_nil fun σ H Q ⟨H0, F0, fp, F, r, m, o⟩ => o F H (Grow.refl m.sub)
theorem re_lc {b : Bool} {elt iter : Expr} {ifs : List Expr} {scope : Scope} {fi : Env → Res (List D)} {g : D → Env → Res Env} {t : Env → Res Bool} {f : Env → Res D} (own : List (Str × Nat)) (hc : X.calm = true) (hN : X.N.Nodup) (hi : RI X W b tg iter fi) (ok : BlkOk X.N X.env.scope scope own)
    (hg : ∀ (s : Shared) (H : Hp) (C : Addr) (cl : List (Str × Addr)) (fp : List Addr) (σ : L2.St), RG (X.blk s H scope (compEnvC scope cl C X.env) fp) (JB (own.map (·.2)) σ) tg g)
    (ht : ∀ (s : Shared) (H : Hp) (C : Addr) (cl : List (Str × Addr)) (fp : List Addr), RTs (X.blk s H scope (compEnvC scope cl C X.env) fp) W0 ifs t)
    (he : ∀ (s : Shared) (H : Hp) (C : Addr) (cl : List (Str × Addr)) (fp : List Addr), RE (X.blk s H scope (compEnvC scope cl C X.env) fp) W0 .S elt f) (hs : ∀ x, foldedSetIterable iter X.env x = pure x := by intro _; rfl) :
    RE X W (.O .flat) (.ListComp elt [⟨tg, iter, ifs, 0⟩] scope pos) (fun r => fi r >>= fun ds => lcD g t f (wipeR r (own.map (·.2))) ds >>= lstD) :=
  ⟨fun pins s σ H Q I h => (pe_lc (g := tGd (gOf X) (JB (own.map (·.2)) σ) g) hc hN hi ok (fun s H C cl fp => hg s H C cl fp σ) ht he hs).run pins s σ H Q I (t_lc σ H Q h)⟩
/-- name = [..] on one line, the name a local -/
theorem rs_setLc {k : Kd} {b : Bool} {elt iter : Expr} {ifs : List Expr} {scope : Scope} {fi : Env → Res (List D)} {g : D → Env → Res Env} {t : Env → Res Bool} {f : Env → Res D} {y : Str} {py spos : Pos} (i : Nat) (own : List (Str × Nat)) (hc : X.calm = true) (hN : X.N.Nodup) (hi : RI X W b tg iter fi) (ok : BlkOk X.N X.env.scope scope own)
    (hg : ∀ (s : Shared) (H : Hp) (C : Addr) (cl : List (Str × Addr)) (fp : List Addr) (σ : L2.St), RG (X.blk s H scope (compEnvC scope cl C X.env) fp) (JB (own.map (·.2)) σ) tg g)
    (ht : ∀ (s : Shared) (H : Hp) (C : Addr) (cl : List (Str × Addr)) (fp : List Addr), RTs (X.blk s H scope (compEnvC scope cl C X.env) fp) W0 ifs t)
    (he : ∀ (s : Shared) (H : Hp) (C : Addr) (cl : List (Str × Addr)) (fp : List Addr), RE (X.blk s H scope (compEnvC scope cl C X.env) fp) W0 .S elt f)
    (hJ : ∀ σ v, W.J σ → W.J (σ.set i v) := by first | exact fun _ _ h => h | exact jset (by decide) | exact jfn (by decide)) (hy : X.N[i]? = some y := by rfl) (hyl : X.env.scope.names.lookup y = some .local := by rfl) (hk : X.env.scope.kind = .function := by rfl)
    (ha : (scope.names.any fun (n, k) => n == y && (k == .local || k == .cell)) = false := by decide +kernel) (hl : (py.line == pos.line) = true := by rfl) (hs : ∀ x, foldedSetIterable iter X.env x = pure x := by intro _; rfl) :
    RS X W k (.Assign [.Name y py] (.ListComp elt [⟨tg, iter, ifs, 0⟩] scope pos) spos) (fun r => lift (fi r >>= fun ds => lcD g t f (wipeR r (own.map (·.2))) ds >>= lstD) r fun d => .nx (r.set i (.ow .flat d))) :=
  ⟨fun pins s σ H D I h => (ps_setLc (g := tGd (gOf X) (JB (own.map (·.2)) σ) g) hc hN hy hyl (sw_true hk hyl hl ha) hi ok (fun s H C cl fp => hg s H C cl fp σ) ht he hs).run pins s σ H D I (by
    obtain ⟨H0, F0, fp, F, r, m, o⟩ := h
    refine t_lc σ H _ ⟨H0, F0, fp, F, r, m, OutS.lift m o fun F' H' d gr o' v kv => ?_⟩
    obtain ⟨fp', m'⟩ := m.setNew gr i kv hJ
    exact o' fp' F' _ H' (Same.refl _) m')⟩
end
end Mir
namespace Mir
open PySem PySem.Spec PyProof.Rows L2
variable [Tn]
inductive Tg where
  | t (n : String)
  | c (k : Nat)
  deriving DecidableEq
def tgOf : D → Tg
  | .non => .t "NoneType"
  | .bl _ => .t "bool"
  | .int _ => .t "int"
  | .str _ => .t "str"
  | .tup _ => .t "tuple"
  | .lst _ => .t "list"
  | .scr _ => .t "list"
  | .dic _ _ => .t "dict"
  | .obj c _ => .c c
  | .exc c _ => .c c
  | .cls _ => .t "type"
  | .ty _ => .t "type"
def bS : List String := ["NoneType", "bool", "int", "str", "tuple", "list", "dict"]
def bT : List String := ["int", "bool", "str", "tuple", "list", "dict", "ValueError"]
def clsTg : D → Option Tg
  | .cls c => some (.c c)
  | .ty n => some (.t n)
  | _ => none
def tgV (ca : Nat → Addr) : Tg → Value
  | .t n => .type n
  | .c k => .ref (ca k)
/-- the class b is over the class a -/
def overC (a b : Nat) : Bool := (a == b) || (b == 5 && decide (a < 2)) || (b == 10 && decide (10 < a))
/-- what isinstance says -/
def isaT : Tg → Tg → Bool
  | .t a, .t b => (a == b) || (a == "bool" && b == "int")
  | .t _, .c _ => false
  | .c a, .c b => overC a b
  | .c a, .t b => decide (10 ≤ a) && b == "ValueError"
structure ObjC (K : PySem.W.Frag) (C : Addr) : Prop where
  cl : Cls K C
  ha : PySem.W.findIn K (.ref C) "__class__" = some (some (.builtin "object.__class__"))
  hn : PySem.W.specialIn K (.builtin "object.__class__") "__get__" = some (some (.builtin "getset_descriptor.__get__"))
  ht : PySem.W.takesIn K (.builtin "object.__class__") = some true
  hm : PySem.W.mroIn K C (.type "object") = some true
structure ExcC (K : PySem.W.Frag) (C : Addr) : Prop where
  cl : (PySem.W.clsIn K C).isSome = true
  hg : PySem.W.findIn K (.ref C) "__getattribute__" = some (some (.builtin "BaseException.__getattribute__"))
  hk : PySem.W.findIn K (.ref C) "__getattr__" = some none
  hs : PySem.W.subIn K (.ref C) (.type "BaseException") = some true
  ha : PySem.W.findIn K (.ref C) "__class__" = some (some (.builtin "object.__class__"))
  hn : PySem.W.specialIn K (.builtin "object.__class__") "__get__" = some (some (.builtin "getset_descriptor.__get__"))
  ht : PySem.W.takesIn K (.builtin "object.__class__") = some true
  hm : PySem.W.mroIn K C (.type "object") = some true
/-- the classes cs may be asked for, the classes us may be asked about -/
structure IsM (K : PySem.W.Frag) (ca : Nat → Addr) (cs us : List Nat) : Prop where
  oo : ∀ c ∈ cs, ∀ u ∈ us, PySem.W.kitOne K (.ref (ca c)) (.ref (ca u)) = some (overC c u)
  ot : ∀ c ∈ cs, ∀ u ∈ bT, PySem.W.kitOne K (.ref (ca c)) (.type u) = some (isaT (.c c) (.t u))
  to : ∀ b ∈ bS, ∀ u ∈ us, PySem.W.kitOne K (.type b) (.ref (ca u)) = some false
  ob : ∀ c ∈ cs, c < 10 → ObjC K (ca c)
  ex : ∀ c ∈ cs, 10 ≤ c → ExcC K (ca c)
def okS (cs : List Nat) : Tg → Bool
  | .t n => bS.contains n
  | .c k => cs.contains k
def okD (cs : List Nat) (d : D) : Bool := okS cs (tgOf d) && (match d with
  | .obj c _ => decide (c < 10)
  | .exc c _ => decide (10 ≤ c)
  | _ => true)
def okT (us : List Nat) : Tg → Bool
  | .t n => bT.contains n
  | .c k => us.contains k
theorem bST : ∀ a ∈ bS, ∀ b ∈ bT, kitB a b = some (isaT (.t a) (.t b)) := by decide +kernel
theorem IsM.one {K : PySem.W.Frag} {ca : Nat → Addr} {cs us : List Nat} (M : IsM K ca cs us) {t u : Tg} (h1 : okS cs t = true) (h2 : okT us u = true) : PySem.W.kitOne K (tgV ca t) (tgV ca u) = some (isaT t u) := by
  cases t with
  | t a =>
    have ha : a ∈ bS := by simpa [okS] using h1
    cases u with
    | t b => exact kit_ty (bST a ha b (by simpa [okT] using h2))
    | c k => exact M.to a ha k (by simpa [okT] using h2)
  | c a =>
    have ha : a ∈ cs := by simpa [okS] using h1
    cases u with
    | t b => exact M.ot a ha b (by simpa [okT] using h2)
    | c k => exact M.oo a ha k (by simpa [okT] using h2)
theorem IsM.any {K : PySem.W.Frag} {ca : Nat → Addr} {cs us : List Nat} (M : IsM K ca cs us) {t : Tg} (h1 : okS cs t = true) : ∀ {l : List Tg}, l.all (okT us) = true → PySem.W.kitAny K (tgV ca t) (l.map (tgV ca)) = some (l.any (isaT t))
  | [], _ => rfl
  | u :: l, h => by
    rw [List.all_cons, Bool.and_eq_true] at h
    rw [List.map_cons, List.any_cons]
    refine kitAny_cons (M.one h1 h.1) (fun e => ?_) fun e => ?_
    · rw [e, Bool.false_or]; exact IsM.any M h1 h.2
    · rw [e, Bool.true_or]
def optAll : List D → Option (List Tg)
  | [] => some []
  | d :: ds => match clsTg d, optAll ds with
    | some t, some ts => some (t :: ts)
    | _, _ => none
/-- isinstance over data -/
def isD (cs us : List Nat) (d c : D) : Res D := if okD cs d = true then (match clsTg c with
    | some u => if okT us u = true then .ok (.bl (isaT (tgOf d) u)) else .bad
    | none => match c with
      | .tup es => match optAll es with
        | some l => if l.all (okT us) = true then .ok (.bl (l.any (isaT (tgOf d)))) else .bad
        | none => .bad
      | _ => .bad) else .bad
theorem ne_isD {cs us : List Nat} : NoEr2 (isD cs us) := fun a b e z => by
  unfold isD at z
  split at z
  · split at z
    · split at z <;> cases z
    · split at z
      · split at z
        · split at z <;> cases z
        · cases z
      · cases z
  · cases z
section
variable {X : Cx} {pins : List (Addr × Obj)} {σ : L2.St} {H F : Hp} {s : Shared}
theorem kit_rd {cs us : List Nat} {v : V} {u : Value} {d : D} (M : IsM X.K (gOf X).ca cs us) (I : L2.Inv X pins σ H s) (sF : Same F H) (h : RdD (gOf X) F H v d) (r : RelV v u) (hk : okD cs d = true) :
    ∃ P : Heap → Prop, PySem.W.KitX X.K u (tgV (gOf X).ca (tgOf d)) P ∧ P s.heap ∧ u ≠ .builtin "__main__.__loader__#opaque" := by
  cases d with
  | non => rw [RdD.non h] at r; exact kit_of I r (.base .non)
  | bl b => rw [RdD.bl h] at r; exact kit_of I r (.base (.bl b))
  | int i => rw [RdD.int h] at r; exact kit_of I r (.base (.int i))
  | str z => rw [RdD.str h] at r; exact kit_of I r (.base (.str z))
  | tup ds =>
    obtain ⟨a, vs, rfl, q, _⟩ := h.tup sF
    rcases q with (q | ⟨o, q⟩) | ⟨o, its, n, q, c, _⟩
    · exact kit_of I r (.base (.tup q))
    · exact kit_of I r (.fTuple q)
    · exact kit_of I r (.kTuple q c)
  | lst ds =>
    obtain ⟨a, vs, rfl, q, _⟩ := h.lst sF
    exact kit_of I r (.base (.lst q))
  | scr ns =>
    obtain ⟨a, rfl, q⟩ := h.scr sF
    rcases q with (q | ⟨o, q⟩) | ⟨o, its, n, q, c, _⟩
    · exact kit_of I r (.base (.lst q))
    · exact kit_of I r (.base (.frz q))
    · exact kit_of I r (.kList q c)
  | dic ks vs =>
    obtain ⟨a, o, xs, ws, rfl, q, _, dd, _⟩ := h.dic sF
    cases (show u = Value.ref a from r)
    obtain ⟨e, _⟩ := (show ObjOk X.prog X.w H s.heap a (.ext (isObj' a o)) from I.hok a _ q)
    exact ⟨_, PySem.W.kitx_dict, ⟨o, e, dd.ex.1⟩, fun z => nomatch z⟩
  | obj c vs =>
    unfold okD at hk
    rw [Bool.and_eq_true] at hk
    have hc : c ∈ cs := by simpa [okS, tgOf] using hk.1
    have O := M.ob c hc (of_decide_eq_true hk.2)
    obtain ⟨a, dx, fs, rfl, q⟩ := h.obj sF
    exact kit_of I r (.base (.ins q O.cl O.ha O.hn O.ht O.hm))
  | exc c vs =>
    unfold okD at hk
    rw [Bool.and_eq_true] at hk
    have hc : c ∈ cs := by simpa [okS, tgOf] using hk.1
    have O := M.ex c hc (of_decide_eq_true hk.2)
    rcases h with h | ⟨A, h⟩
    · have ins : ∀ {a : Addr} {d : Option Addr} {od : Option Obj}, (∃ oe us, s.heap.get? a = some oe ∧ oe.cls = .ref ((gOf X).ca c) ∧ oe.dict = d ∧ oe.data = .fields us) → (match d, od with | some dx, some o => s.heap.get? dx = some o | none, none => True | _, _ => False) → ∃ oe, PySem.W.InstAt s.heap a oe ((gOf X).ca c) od := fun {a d od} ⟨oe, us, h1, h2, h3, h4⟩ hd =>
        ⟨oe, h1, h2, by unfold PySem.W.notCls; rw [h4], by rw [h3]; exact hd⟩
      have fin : ∀ {a : Addr} {oe : Obj} {od : Option Obj}, PySem.W.InstAt s.heap a oe ((gOf X).ca c) od → u = .ref a → ∃ P : Heap → Prop, PySem.W.KitX X.K u (tgV (gOf X).ca (tgOf (.exc c vs))) P ∧ P s.heap ∧ u ≠ .builtin "__main__.__loader__#opaque" := fun {a oe od} J e => by
        subst e
        exact ⟨_, PySem.W.kitx_exc O.cl O.hg O.hk O.hs O.ha O.hn O.ht O.hm, J, fun z => nomatch z⟩
      cases h with
      | exc h1 _ =>
        obtain ⟨e, _⟩ := (show ObjOk X.prog X.w H s.heap _ (.ext (isExc _ ((gOf X).ca c) none)) from I.hok _ _ (sF _ _ h1))
        obtain ⟨oe, J⟩ := ins (od := none) e trivial
        exact fin J r
      | excF h1 h2 _ _ =>
        obtain ⟨e, _⟩ := (show ObjOk X.prog X.w H s.heap _ (.ext (isExc _ ((gOf X).ca c) (some _))) from I.hok _ _ (sF _ _ h1))
        obtain ⟨mA, ⟨od, _, _, e2, _⟩, _⟩ := (show ObjOk X.prog X.w H s.heap _ (.xd _) from I.hok _ _ (sF _ _ h2))
        obtain ⟨oe, J⟩ := ins (od := some od) e e2
        exact fin J r
    · cases h
  | cls c => cases hk
  | ty n => cases hk
theorem cls_val {F : Hp} {v : V} {d : D} {u : Value} {t : Tg} (h : Rep (gOf X) F v d) (e : clsTg d = some t) (r : RelV v u) : u = tgV (gOf X).ca t := by
  cases h with
  | cls hm =>
    cases e
    have r' : u = .ref _ := r
    rw [r']
    show Value.ref _ = .ref ((gOf X).ca _)
    rw [ca_of hm]
  | ty n =>
    cases e
    exact r
  | _ => cases e
theorem cls_vals {F : Hp} : ∀ {vs : List V} {ds : List D} {us : List Value} {l : List Tg}, RepAll (gOf X) F vs ds → optAll ds = some l → Vals vs us → us = l.map (tgV (gOf X).ca)
  | _, _, _, _, .nil, e, .nil => by cases e; rfl
  | _, _, _, _, .cons r t, e, .cons q k => by
    rw [optAll] at e
    split at e
    · rename_i a b h1 h2
      cases e
      rw [cls_val r h1 q, cls_vals t h2 k]
      rfl
    · cases e
theorem RdD.clsS {v : V} {d : D} {t : Tg} (h : RdD (gOf X) F H v d) (e : clsTg d = some t) : Rep (gOf X) F v d := by
  rcases h with h | ⟨A, h⟩
  · exact h
  · cases h <;> cases e
def rIs (X : Cx) (cs us : List Nat) : List V → Hp → VK → Prop := fun xs H Q => ∃ (F : Hp) (x y : V) (d c e : D), xs = [x, y] ∧ Same F H ∧ RdD (gOf X) F H x d ∧ RdD (gOf X) F H y c ∧ isD cs us d c = .ok e ∧ ∀ v, Rep (gOf X) F v e → Q v H
theorem call_is {cs us : List Nat} (M : IsM X.K (gOf X).ca cs us) : CallR X (.builtin "isinstance") (rIs X cs us) := by
  intro pins s σ H xs ws Q I r h
  obtain ⟨F, x, y, d, c, e, rfl, sF, hd, hc, he, q⟩ := h
  obtain ⟨u1, u2, rfl, r1, r2⟩ := vals2 r
  unfold isD at he
  split at he
  · rename_i hok
    obtain ⟨P, Z, p, hx⟩ := kit_rd M I sF hd r1 hok
    have hok : okS cs (tgOf d) = true := by
      unfold okD at hok
      rw [Bool.and_eq_true] at hok
      exact hok.1
    split at he
    · rename_i t ht
      split at he <;> cases he
      rename_i h2
      have e2 := cls_val (hc.clsS ht) ht r2
      subst e2
      exact PySem.W.kia_one Z I.kIn p (M.one hok h2) hx fun tk => ⟨.bl _, H, I.tok tk, rfl, q _ (.bl _)⟩
    · split at he
      · rename_i es
        split at he
        · rename_i l hl
          split at he <;> cases he
          rename_i h2
          obtain ⟨a, vs, rfl, q1, ra⟩ := hc.tup sF
          cases (show u2 = Value.ref a from r2)
          obtain ⟨its, rv, ⟨o, h1, h2', n, h3⟩, _⟩ := I.tuple q1
          have e3 := cls_vals ra hl rv
          subst e3
          obtain ⟨oc, od, dt, sl⟩ := o
          simp only at h2' h3
          subst h2' h3
          exact PySem.W.kia_tup Z I.kIn p h1 (M.any hok h2) hx fun tk => ⟨.bl _, H, I.tok tk, rfl, q _ (.bl _)⟩
        · cases he
      · cases he
  · cases he
theorem boot_isi : bootBuiltins "isinstance" = some (.builtin "isinstance") := by decide +kernel
theorem b_is {cs us : List Nat} (M : IsM X.K (gOf X).ca cs us) (hm : X.mg "isinstance" = none) : BlM X "isinstance" .S (two (isD cs us)) := BlM.b hm boot_isi (call_is M) (ne_two ne_isD) (cal_two fun F H x y a b d Q s ra rb e q => ⟨F, x, y, a, b, d, rfl, s, ra, rb, e, fun v rv => q v F H (Grow.refl s) rv⟩)
def lenD : D → Res D
  | .lst ds => .ok (.int ds.length)
  | .tup ds => .ok (.int ds.length)
  | .scr ns => .ok (.int ns.length)
  | .str z => if z.length ≤ lim then .ok (.int z.length) else .bad
  | .dic ks _ => .ok (.int ks.length)
  | _ => .bad
mutual
theorem nested_of (I : L2.Inv X pins σ H s) (sF : Same F H) : ∀ {v : V} {d : D} {u : Value} {k : NestedKey}, Rep (gOf X) F v d → keyOf d = some k → RelV v u → NestedIs s.heap k u
  | _, _, _, _, .non, e, r => by
    simp only [keyOf, Option.some.injEq] at e
    subst e
    cases (show _ = Value.none from r)
    exact .none
  | _, _, _, _, .bl b, e, r => by
    simp only [keyOf, Option.some.injEq] at e
    subst e
    cases (show _ = Value.bool b from r)
    exact .bool rfl
  | _, _, _, _, .int i, e, r => by
    simp only [keyOf, Option.some.injEq] at e
    subst e
    obtain ⟨t, q⟩ := (show ∃ t, _ = Value.int i t from r)
    cases q
    exact .int i t
  | _, _, _, _, .str z, e, r => by
    simp only [keyOf, Option.some.injEq] at e
    subst e
    obtain ⟨t, q⟩ := (show ∃ t, _ = Value.str z t from r)
    cases q
    exact .text z t
  | _, _, _, _, .tup h ra, e, r => by
    simp only [keyOf, Option.map_eq_some_iff] at e
    obtain ⟨ks, e1, e2⟩ := e
    subst e2
    cases (show _ = Value.ref _ from r)
    obtain ⟨its, rv, ⟨o, h1, h2, n, h3⟩, _⟩ := I.tuple (Same.sqT sF h)
    exact .tup h1 h2 h3 (nested_all I sF ra e1 rv)
  | _, _, _, _, .lst _ _, e, _ => by simp [keyOf] at e
  | _, _, _, _, .scr _, e, _ => by simp [keyOf] at e
  | _, _, _, _, .dic _ _ _ _ _ _ _, e, _ => by simp [keyOf] at e
  | _, _, _, _, .obj _ _ _, e, _ => by simp [keyOf] at e
  | _, _, _, _, .exc _ _, e, _ => by simp [keyOf] at e
  | _, _, _, _, .excF _ _ _ _, e, _ => by simp [keyOf] at e
  | _, _, _, _, .cls _, e, _ => by simp [keyOf] at e
  | _, _, _, _, .ty _, e, _ => by simp [keyOf] at e
theorem nested_all (I : L2.Inv X pins σ H s) (sF : Same F H) : ∀ {vs : List V} {ds : List D} {us : List Value} {ks : List NestedKey}, RepAll (gOf X) F vs ds → keyOf.keysOf ds = some ks → Vals vs us → NestedAll s.heap ks us
  | _, _, _, _, .nil, e, rv => by
    simp only [keyOf.keysOf, Option.some.injEq] at e
    subst e
    cases rv
    exact .nil
  | _, _, _, _, .cons r t, e, rv => by
    rw [keyOf.keysOf] at e
    split at e
    · rename_i a b h1 h2
      cases e
      cases rv with
      | cons q k => exact .cons (nested_of I sF r h1 q) (nested_all I sF t h2 k)
    · cases e
end
/-- the entries' keys stand -/
theorem keys_is (I : L2.Inv X pins σ H s) (sF : Same F H) : ∀ {xs : List (NestedKey × Addr × Value)} {ks : List D}, RepAll (gOf X) F (xs.map fun x => V.ref x.2.1) ks → ks.map keyOf = xs.map (fun x => some x.1) → (∀ x ∈ xs, x.1.depth ≤ 8) → ∀ x ∈ xs, (nestedKind X.prog X.w).is s.heap x.1 x.2.1
  | [], _, _, _, _, _, h => nomatch h
  | y :: ys, _, .cons r t, e, d, x, h => by
    rw [List.map_cons, List.map_cons, List.cons.injEq] at e
    rcases List.mem_cons.mp h with z | z
    · subst z
      exact ⟨nested_of I sF r e.1 rfl, d x List.mem_cons_self⟩
    · exact keys_is I sF t e.2 (fun x hx => d x (List.mem_cons_of_mem _ hx)) x z
theorem dic_of (I : L2.Inv X pins σ H s) (sF : Same F H) {p : Addr} {o : Obj} {xs : List (NestedKey × Addr × Value)} {ks : List D} (hp : H p = some (.ext (isObj' p o))) (dd : DicO (gOf X) o xs) (h : RepAll (gOf X) F (xs.map fun x => V.ref x.2.1) ks) (e : ks.map keyOf = xs.map (fun x => some x.1)) :
    s.heap.DictOfH (nestedKind X.prog X.w) p xs := by
  obtain ⟨q, _⟩ := (show ObjOk X.prog X.w H s.heap p (.ext (isObj' p o)) from I.hok p _ hp)
  obtain ⟨ents, ep, h1, h2⟩ := dd.dat
  exact ⟨o, ents, ep, q, dd.ex, h1, h2, keys_is I sF h e dd.dp, dd.nd⟩
def rLenH (X : Cx) : List V → Hp → VK → Prop := fun xs H Q => ∃ (F : Hp) (p : Addr) (o : Obj) (es : List (NestedKey × Addr × Value)) (ks : List D), xs = [.ref p] ∧ H p = some (.ext (isObj' p o)) ∧ (p == sysModules) = false ∧ Same F H ∧ DicO (gOf X) o es ∧ RepAll (gOf X) F (es.map fun x => V.ref x.2.1) ks ∧ ks.map keyOf = es.map (fun x => some x.1) ∧ Q (.int ((es.length : Nat) : Int)) H
theorem call_lenH : CallR X (.builtin "len") (rLenH X) := by
  intro pins s σ H xs us Q I r h
  obtain ⟨F, p, o, es, ks, rfl, hp, hsys, sF, dd, hr, hk, q⟩ := h
  obtain ⟨u, rfl, rx⟩ := vals1 r
  cases (show u = Value.ref p from rx)
  have hl := dd.sz
  have h63 := line63
  exact call_len_dictH (knd := nestedKind X.prog X.w) hsys (dic_of I sF hp dd hr hk) (by omega) ⟨.int es.length, H, I.tok _, ⟨_, rfl⟩, q⟩
theorem boot_len' : bootBuiltins "len" = some (.builtin "len") := by decide +kernel
theorem b_len (hm : X.mg "len" = none) : BlM X "len" .S (one lenD) := BlM.b hm boot_len' ((call_len_seq.or call_len_str).or call_lenH) (ne_one fun d e z => by unfold lenD at z; split at z <;> (try split at z) <;> cases z) (cal_one fun F H x a d Q s ra e q => by
  unfold lenD at e
  split at e
  · cases e
    obtain ⟨p, vs, rfl, h1, r1⟩ := ra.lst s
    exact .inl (.inl ⟨p, vs, rfl, .inl (.of h1), by rw [r1.length]; exact q _ F H (Grow.refl s) (Rep.int _)⟩)
  · cases e
    obtain ⟨p, vs, rfl, h1, r1⟩ := ra.tup s
    exact .inl (.inl ⟨p, vs, rfl, .inr h1, by rw [r1.length]; exact q _ F H (Grow.refl s) (Rep.int _)⟩)
  · cases e
    obtain ⟨p, rfl, h1⟩ := ra.scr s
    exact .inl (.inl ⟨p, _, rfl, .inl h1, by rw [List.length_map]; exact q _ F H (Grow.refl s) (Rep.int _)⟩)
  · split at e <;> cases e
    rename_i h
    exact .inl (.inr ⟨_, by rw [ra.str], Nat.le_trans h lim_le, q _ F H (Grow.refl s) (Rep.int _)⟩)
  · cases e
    obtain ⟨p, o, xs, ws, rfl, h1, z1, z2, z3, z4, z5, z6⟩ := ra.dic s
    rename_i ks vs
    have hl : xs.length = ks.length := by have := congrArg List.length z5; simpa using this.symm
    exact .inr ⟨F, p, o, xs, ks, rfl, h1, z1, s, z2, z4, z5, by rw [hl]; exact q _ F H (Grow.refl s) (Rep.int _)⟩
  · cases e)
end
end Mir
namespace Mir
open PySem PySem.Spec PyProof.Rows L2
variable [Tn]
/-- an except clause: its class, its name's slot -/
structure Cl where
  c : Value
  i : Option Nat
  t : TS
inductive ClsOk (X : Cx) : List ExceptHandler → List Cl → Prop
  | nil : ClsOk X [] []
  | one {x : Str} {q : Cl} {b₀ : Stmt} {suite : List Stmt} {np pos' : Pos} {hds : List ExceptHandler} {l : List Cl} (hc : Names X x q.c) (hi : q.i = none)
      (hsu : ∀ (a : Addr) (pn : List (Addr × Obj)), PSs (X.suite a pn) (b₀ :: suite) q.t) (r : ClsOk X hds l) : ClsOk X (.ExceptHandler (some (.Name x np)) none (b₀ :: suite) pos' :: hds) (q :: l)
  | as {x n : Str} {i : Nat} {q : Cl} {b₀ : Stmt} {suite : List Stmt} {np pos' : Pos} {hds : List ExceptHandler} {l : List Cl} (hc : Names X x q.c) (hi : q.i = some i) (hn : X.N[i]? = some n) (hln : X.env.kindOf n = some .local)
      (hsu : ∀ (a : Addr) (pn : List (Addr × Obj)), PSs (X.suite a pn) (b₀ :: suite) q.t) (r : ClsOk X hds l) : ClsOk X (.ExceptHandler (some (.Name x np)) (some n) (b₀ :: suite) pos' :: hds) (q :: l)
/-- an except clause over data: the class, the name's slot, the suite -/
structure ClD where
  u : Nat
  i : Option Nat
  g : Env → Oc
abbrev WF (J : L2.St → Prop) : Wi := ⟨fun _ _ _ _ => False, J⟩
abbrev toCl (G : GC) (J : L2.St → Prop) (k : Kd) (q : ClD) : Cl := ⟨.ref (G.ca q.u), q.i, tS G (WF J) k q.g⟩
inductive ClsD (X : Cx) (J : L2.St → Prop) (k : Kd) : List ExceptHandler → List ClD → Prop
  | nil : ClsD X J k [] []
  | one {x : Str} {q : ClD} {b₀ : Stmt} {suite : List Stmt} {np pos' : Pos} {hds : List ExceptHandler} {l : List ClD} (hc : Names X x (.ref ((gOf X).ca q.u))) (hi : q.i = none)
      (hsu : ∀ (a : Addr) (pn : List (Addr × Obj)), RSs (X.suite a pn) (WF J) k (b₀ :: suite) q.g) (r : ClsD X J k hds l) : ClsD X J k (.ExceptHandler (some (.Name x np)) none (b₀ :: suite) pos' :: hds) (q :: l)
  | as {x n : Str} {i : Nat} {q : ClD} {b₀ : Stmt} {suite : List Stmt} {np pos' : Pos} {hds : List ExceptHandler} {l : List ClD} (hc : Names X x (.ref ((gOf X).ca q.u))) (hi : q.i = some i) (hn : X.N[i]? = some n) (hln : X.env.kindOf n = some .local) (hJ : ∀ σ v, J σ → J (σ.set i v))
      (hsu : ∀ (a : Addr) (pn : List (Addr × Obj)), RSs (X.suite a pn) (WF J) k (b₀ :: suite) q.g) (r : ClsD X J k hds l) : ClsD X J k (.ExceptHandler (some (.Name x np)) (some n) (b₀ :: suite) pos' :: hds) (q :: l)
theorem ClsD.ok {X : Cx} {J : L2.St → Prop} {k : Kd} : ∀ {hds : List ExceptHandler} {l : List ClD}, ClsD X J k hds l → ClsOk X hds (l.map (toCl (gOf X) J k))
  | _, _, .nil => .nil
  | _, _, .one hc hi hsu r => .one (q := toCl (gOf X) J k _) hc hi hsu (ClsD.ok r)
  | _, _, .as hc hi hn hln _ hsu r => .as (q := toCl (gOf X) J k _) hc hi hn hln hsu (ClsD.ok r)
end Mir
namespace Mir
open PySem PySem.Spec PyProof.Rows L2
variable [Tn]
def enumL (ds : List D) : List D := ds.zipIdx.map fun p => .tup [.int (p.2 : Nat), p.1]
theorem enumL_get {ds : List D} {i : Nat} {d : D} (h : ds[i]? = some d) : (enumL ds)[i]? = some (.tup [.int (i : Nat), d]) := by
  unfold enumL
  rw [List.getElem?_map, List.getElem?_zipIdx, h]
  simp
theorem enumL_len (ds : List D) : (enumL ds).length = ds.length := by simp [enumL]
section
variable {X : Cx} {W : Wi} {e : Expr} {p pos tpos : Pos} {elts : List Expr} {kk : Nat}
theorem ints_rep {G : GC} {F : Hp} : ∀ ns : List Int, RepAll G F (ns.map V.int) (ns.map D.int)
  | [] => .nil
  | n :: ns => .cons (.int n) (ints_rep ns)
end
end Mir
namespace Mir
open PySem PySem.Spec PyProof.Rows L2
variable [Tn]
def nameG (i : Nat) (d : D) (r : Env) : Res Env := .ok (r.set i (.sh d))
def nilG : List D → Env → Res Env := fun ds r => match ds with
  | [] => .ok r
  | _ => .bad
def consG (g : D → Env → Res Env) (gs : List D → Env → Res Env) : List D → Env → Res Env := fun ds r => match ds with
  | d :: ds => g d r >>= fun r' => gs ds r'
  | [] => .bad
def tupG (n : Nat) (gs : List D → Env → Res Env) : D → Env → Res Env := fun d r => match d with
  | .tup ds => if ds.length = n then gs ds r else .bad
  | _ => .bad
@[simp] theorem nameG_eq (i : Nat) (d : D) (r : Env) : nameG i d r = .ok (r.set i (.sh d)) := rfl
@[simp] theorem nilG_nil (r : Env) : nilG [] r = .ok r := rfl
@[simp] theorem consG_cons (g : D → Env → Res Env) (gs : List D → Env → Res Env) (d : D) (ds : List D) (r : Env) : consG g gs (d :: ds) r = (g d r >>= fun r' => gs ds r') := rfl
@[simp] theorem tupG_tup (n : Nat) (gs : List D → Env → Res Env) (ds : List D) (r : Env) : tupG n gs (.tup ds) r = if ds.length = n then gs ds r else .bad := rfl
section
variable {X : Cx} {J : L2.St → Prop}
theorem gN (i : Nat) {x : Str} {pos : Pos} (hN : X.N.Nodup) (hJ : ∀ σ v, J σ → J (σ.set i v) := by first | exact fun _ _ h => h | exact jset (by decide) | exact jfn (by decide) | exact jb (by decide)) (hi : X.N[i]? = some x := by rfl) (hx : Loc X.env.scope x := by first | exact Or.inl rfl | exact Or.inr rfl) (hf : X.fn x = true ∨ X.env.scope.names.lookup x = some .local := by first | exact .inl rfl | exact .inr rfl) :
    RG X J (.Name x pos) (nameG i) := rg_name i hN hJ hi hx hf
theorem gs0 : RGs X J [] nilG := rgs_nil
theorem gsc {e : Expr} {es : List Expr} {g : D → Env → Res Env} {gs : List D → Env → Res Env} (h1 : RG X J e g) (h2 : RGs X J es gs) (hs : (assignEach (e :: es) X.env).map (·.2) = assign e X.env :: (assignEach es X.env).map (·.2) := by rfl) : RGs X J (e :: es) (consG g gs) := rgs_cons h1 h2 hs
theorem gT {es : List Expr} {kk : Nat} {pos : Pos} {gs : List D → Env → Res Env} (n : Nat) (hc : X.calm = true) (h : RGs X J es gs) (hn : (assignEach es X.env).length = n := by rfl) (hst : (assignEach es X.env).findIdx? (·.1) = none := by rfl) :
    RG X J (.Tuple es kk pos) (tupG n gs) := rg_tup hc h hn hst
end
/-- the attribute f's place in the classes cs -/
def plOf (cs : List Nat) (f : Str) (c : Nat) : Option Nat := if cs.contains c = true then (cflds c).idxOf? f else none
theorem plOf_some {cs : List Nat} {f : Str} {c i : Nat} (h : plOf cs f c = some i) : c ∈ cs ∧ (cflds c)[i]? = some f := by
  unfold plOf at h
  split at h
  · rename_i hc
    refine ⟨by simpa using hc, ?_⟩
    rw [List.idxOf?_eq_some_iff] at h
    obtain ⟨h1, h2, _⟩ := h
    rw [List.getElem?_eq_getElem h1]
    exact congrArg some h2
  · cases h
theorem cflds_nd (c : Nat) : (cflds c).Nodup := by
  unfold cflds
  split <;> decide +kernel
theorem fldM_of {K : PySem.W.Frag} {ca : Nat → Addr} {f : Str} {cs : List Nat} (h : ∀ c ∈ cs, Cls K (ca c) ∧ NoAttr K (ca c) f) : FldM K ca f (plOf cs f) :=
  ⟨fun c i e => let ⟨h1, h2⟩ := plOf_some e; ⟨h2, cflds_nd c, (h c h1).1, (h c h1).2⟩⟩
def objB (K : PySem.W.Frag) (C : Addr) : Bool := PySem.W.plainGet K C Str.empty && (PySem.W.hasDictIn K C && (PySem.W.plainOver K C && (decide (PySem.W.findIn K (.ref C) "__setattr__" = some (some (.builtin "object.__setattr__"))) && (decide (PySem.W.findIn K (.ref C) "__class__" = some (some (.builtin "object.__class__"))) &&
  (decide (PySem.W.specialIn K (.builtin "object.__class__") "__get__" = some (some (.builtin "getset_descriptor.__get__"))) && (decide (PySem.W.takesIn K (.builtin "object.__class__") = some true) && decide (PySem.W.mroIn K C (.type "object") = some true)))))))
theorem objB_ok {K : PySem.W.Frag} {C : Addr} (h : objB K C = true) : ObjC K C := by
  unfold objB at h
  simp only [Bool.and_eq_true, decide_eq_true_eq] at h
  obtain ⟨h1, h2, h3, h4, h5, h6, h7, h8⟩ := h
  exact ⟨⟨h1, h2, h3, h4⟩, h5, h6, h7, h8⟩
def excB (K : PySem.W.Frag) (C : Addr) : Bool := (PySem.W.clsIn K C).isSome && (decide (PySem.W.findIn K (.ref C) "__getattribute__" = some (some (.builtin "BaseException.__getattribute__"))) && (decide (PySem.W.findIn K (.ref C) "__getattr__" = some none) && (decide (PySem.W.subIn K (.ref C) (.type "BaseException") = some true) && (decide (PySem.W.findIn K (.ref C) "__class__" = some (some (.builtin "object.__class__"))) &&
  (decide (PySem.W.specialIn K (.builtin "object.__class__") "__get__" = some (some (.builtin "getset_descriptor.__get__"))) && (decide (PySem.W.takesIn K (.builtin "object.__class__") = some true) && decide (PySem.W.mroIn K C (.type "object") = some true)))))))
theorem excB_ok {K : PySem.W.Frag} {C : Addr} (h : excB K C = true) : ExcC K C := by
  unfold excB at h
  simp only [Bool.and_eq_true, decide_eq_true_eq] at h
  obtain ⟨h1, h2, h3, h4, h5, h6, h7, h8⟩ := h
  exact ⟨h1, h2, h3, h4, h5, h6, h7, h8⟩
def isTab1 (K : PySem.W.Frag) (us : List (Nat × Addr)) (p : Nat × Addr) : Bool := (us.all fun q => decide (PySem.W.kitOne K (.ref p.2) (.ref q.2) = some (overC p.1 q.1))) && ((bT.all fun u => decide (PySem.W.kitOne K (.ref p.2) (.type u) = some (isaT (.c p.1) (.t u)))) && (if p.1 < 10 then objB K p.2 else excB K p.2))
def isTab2 (K : PySem.W.Frag) (q : Nat × Addr) : Bool := bS.all fun b => decide (PySem.W.kitOne K (.type b) (.ref q.2) = some false)
def isTab (K : PySem.W.Frag) (l us : List (Nat × Addr)) : Bool := l.all (isTab1 K us) && us.all (isTab2 K)
theorem isM_of {K : PySem.W.Frag} {ca : Nat → Addr} {l us : List (Nat × Addr)} (hl : ∀ p ∈ l, ca p.1 = p.2) (hu : ∀ p ∈ us, ca p.1 = p.2) (h : isTab K l us = true) : IsM K ca (l.map (·.1)) (us.map (·.1)) := by
  unfold isTab at h
  simp only [Bool.and_eq_true, List.all_eq_true] at h
  obtain ⟨h1, h2⟩ := h
  have one : ∀ p ∈ l, (∀ q ∈ us, PySem.W.kitOne K (.ref p.2) (.ref q.2) = some (overC p.1 q.1)) ∧ (∀ u ∈ bT, PySem.W.kitOne K (.ref p.2) (.type u) = some (isaT (.c p.1) (.t u))) ∧ (if p.1 < 10 then objB K p.2 else excB K p.2) = true := fun p hp => by
    have z := h1 p hp
    unfold isTab1 at z
    simp only [Bool.and_eq_true, List.all_eq_true, decide_eq_true_eq] at z
    exact z
  have two : ∀ q ∈ us, ∀ b ∈ bS, PySem.W.kitOne K (.type b) (.ref q.2) = some false := fun q hq b hb => by
    have z := h2 q hq
    unfold isTab2 at z
    simp only [List.all_eq_true, decide_eq_true_eq] at z
    exact z b hb
  refine ⟨fun c hc u hu' => ?_, fun c hc u hu' => ?_, fun b hb u hu' => ?_, fun c hc h10 => ?_, fun c hc h10 => ?_⟩
  · obtain ⟨p, hp, rfl⟩ := List.mem_map.mp hc
    obtain ⟨q, hq, rfl⟩ := List.mem_map.mp hu'
    rw [hl p hp, hu q hq]
    exact (one p hp).1 q hq
  · obtain ⟨p, hp, rfl⟩ := List.mem_map.mp hc
    rw [hl p hp]
    exact (one p hp).2.1 u hu'
  · obtain ⟨q, hq, rfl⟩ := List.mem_map.mp hu'
    rw [hu q hq]
    exact two q hq b hb
  · obtain ⟨p, hp, rfl⟩ := List.mem_map.mp hc
    rw [hl p hp]
    have z := (one p hp).2.2
    rw [if_pos h10] at z
    exact objB_ok z
  · obtain ⟨p, hp, rfl⟩ := List.mem_map.mp hc
    rw [hl p hp]
    have z := (one p hp).2.2
    rw [if_neg (by omega)] at z
    exact excB_ok z
/-- an attribute of objects -/
def flB (K : PySem.W.Frag) (f : Str) (l : List (Nat × Addr)) : Bool := l.all fun p => objB K p.2 && decide (PySem.W.findIn K (.ref p.2) f = some none)
theorem fldM_by {K : PySem.W.Frag} {ca : Nat → Addr} {f : Str} {l : List (Nat × Addr)} (hl : ∀ p ∈ l, ca p.1 = p.2) (h : flB K f l = true) : FldM K ca f (plOf (l.map (·.1)) f) := fldM_of fun c hc => by
  obtain ⟨p, hp, rfl⟩ := List.mem_map.mp hc
  rw [hl p hp]
  unfold flB at h
  simp only [List.all_eq_true, Bool.and_eq_true, decide_eq_true_eq] at h
  exact ⟨(objB_ok (h p hp).1).cl, (h p hp).2⟩
theorem clM_by {K : PySem.W.Frag} {ca : Nat → Addr} {f : Str} {l : List (Nat × Addr)} {c : Nat} (hl : ∀ p ∈ l, ca p.1 = p.2) (h : flB K f l = true) (hc : c ∈ l.map (·.1)) : ClM K ca f c := by
  obtain ⟨p, hp, rfl⟩ := List.mem_map.mp hc
  unfold flB at h
  simp only [List.all_eq_true, Bool.and_eq_true, decide_eq_true_eq] at h
  have z := h p hp
  refine ⟨?_, ?_, cflds_nd _⟩
  · rw [hl p hp]; exact (objB_ok z.1).cl
  · rw [hl p hp]; exact z.2
/-- an error class without an __init__ of its own -/
def e0B (K : PySem.W.Frag) (C : Addr) : Bool := PySem.W.excIn K C veT "ValueError.__new__" && (PySem.W.keepIn K (.ref C) && (decide (PySem.W.subIn K (.ref C) (.type "BaseException") = some true) && decide (PySem.W.typeIn K (.ref C) = some (.type "type"))))
theorem exM0_by {K : PySem.W.Frag} {mg : Str → Option Value} {C : Addr} {c : Nat} (hm : mg (cname c) = some (.ref C)) (h : e0B K C = true) (no : cflds c = [] := by rfl) : ExM0 K mg C c := by
  unfold e0B at h
  simp only [Bool.and_eq_true, decide_eq_true_eq] at h
  obtain ⟨h1, h2, h3, h4⟩ := h
  exact ⟨hm, h1, h2, h3, h4, no⟩
/-- .. with one -/
def oexB (K : PySem.W.Frag) (C : Addr) : Bool := decide (PySem.W.findIn K (.ref C) "__setattr__" = some (some (.builtin "object.__setattr__"))) && (decide (PySem.W.subIn K (.ref C) (.type "BaseException") = some true) && (decide (PySem.W.typeIn K (.ref C) = some (.type "type")) && PySem.W.keepIn K (.ref C)))
theorem oexC_by {K : PySem.W.Frag} {C : Addr} {nm q : Str} {N : Addr} {bs bm : List Value} {sn : List Str} {sub : List Value} {ab : Bool} {col : Option Bool} {dd : Option Addr} {k0 k1 k2 k3 k5 : Option Value}
    (hC : K.lookup C = some (excClassObj nm q C N bs bm true sn sub ab col dd k0 k1 k2 k3 k5 "ValueError.__new__")) (hb : PySem.HandSPX.refsVE bm = true) (h : oexB K C = true) : OexC K C := by
  unfold oexB at h
  simp only [Bool.and_eq_true, decide_eq_true_eq] at h
  obtain ⟨h1, h2, h3, h4⟩ := h
  exact ⟨⟨nm, q, N, bs, bm, sn, sub, ab, col, dd, k0, k1, k2, k3, k5, hC, hb⟩, h1, h2, h3, h4⟩
theorem cg_by {P : Program} {w : World} {K : PySem.W.Frag} {mg : Str → Option Value} {c : Nat} {C : Addr} (h : mg (cname c) = some (.ref C)) : mg (cname c) = some (.ref ((⟨P, w, K, mg⟩ : GC).ca c)) := by
  rw [ca_of (G := ⟨P, w, K, mg⟩) h]
  exact h
theorem nT_same (H : Hp) : Same (nT H) H := fun _ _ e => (nT_of e).1
theorem tt_start {H : Hp} {cs : List (Addr × Addr)} (hl : Tn.l = cs.map (·.2)) (hH : ∀ p ∈ cs, H p.2 = some (.tbl #[])) : Tt (nT H) H := fun P hP => by
  rw [hl] at hP
  obtain ⟨p, hp, rfl⟩ := List.mem_map.mp hP
  refine ⟨?_, #[], hH p hp, True.intro, fun pos cv e => ?_⟩
  · unfold nT
    rw [hH p hp]
  · have z : codeAmong pos [] = some cv := e
    simp [codeAmong] at z
/-- the tables: the def's name, where it stands, its code object, its table -/
abbrev TbE := Str × Addr × Addr × Addr
def tabKB (K : PySem.W.Frag) (t : TbE) : Bool := (match K.lookup t.2.1 with
  | some ⟨_, _, .func fd, _⟩ => (match fd.code with | .ref c => decide (c = t.2.2.1) | _ => false)
  | _ => false) && (PySem.W.codeHdIn K t.2.2.1 t.2.2.2 && ((match K.lookup t.2.2.1 with
  | some ⟨_, _, .fields vs, _⟩ => (match (vs[11]? : Option Value) with | some (.ref P) => decide (P = t.2.2.2) | _ => false)
  | _ => false) && (K.lookup t.2.2.2).isNone))
theorem tabKB_some {K : PySem.W.Frag} {t : TbE} (h : tabKB K t = true) : (∃ (o : Obj) (fd : FuncData), K.lookup t.2.1 = some o ∧ o.data = .func fd ∧ fd.code = .ref t.2.2.1) ∧ PySem.W.codeHdIn K t.2.2.1 t.2.2.2 = true ∧
    (∃ (e : Value) (dd : Option Addr) (vs : Array Value) (sl : Array (Option Value)), K.lookup t.2.2.1 = some ⟨e, dd, .fields vs, sl⟩ ∧ vs[11]? = some (.ref t.2.2.2)) ∧ K.lookup t.2.2.2 = none := by
  unfold tabKB at h
  simp only [Bool.and_eq_true] at h
  obtain ⟨h1, h2, h3, h4⟩ := h
  refine ⟨?_, h2, ?_, by simpa using h4⟩
  · split at h1
    · rename_i fd _ e
      split at h1
      · rename_i c ec
        have := of_decide_eq_true h1
        subst this
        exact ⟨_, fd, e, rfl, ec⟩
      · cases h1
    · cases h1
  · split at h3
    · rename_i vs _ e
      split at h3
      · rename_i c ec
        have := of_decide_eq_true h3
        rw [this] at ec
        exact ⟨_, _, vs, _, e, ec⟩
      · cases h3
    · cases h3
/-- the law's promise, and the tables that it leans on -/
def LawT (P : Program) (w : World) (K : PySem.W.Frag) (q : Program) (k : Nat) (x : Str) (mg : Str → Option Value) (fa : Addr) (g : List D → Res D) : Prop :=
  ∃ (tn : Tn) (fd : FuncData) (ts : List TbE), tn.l = ts.map (·.2.2.2) ∧ (∀ t ∈ ts, ((recsOf q).any fun e => e.name == t.1) = true ∧ mg t.1 = some (.ref t.2.1) ∧ tabKB K t = true) ∧ (∀ (s : Shared) (u : Value), BindsTo s fd ⟨[u], []⟩ [(x, u)]) ∧
    ∀ base : Heap, K.In base → base.Ns mainGlobals mg → (∀ t ∈ ts, LamX.TabB base mg t.2.2.1 t.2.2.2) → FnOk P w K mg base (L2.CX P w) k fa fd [x] (@spM tn ⟨P, w, K, mg⟩ .S g)
theorem walk_mir {l : PySem.W.OpenLaw} {k : Nat} {q : Program} {loose : List Str} {XP : (Str → Option Value) → Heap → Prop} {YP : World → Heap → Prop} {d : DefRec} {K : Params → PySem.W.Frag} {x : Str} {g : List D → Res D}
    (hn : l.most = some 63) (hdf : d.params.defaults = []) (hr : Room k callerA) (hY : ∀ (w : World) (h : Heap), YP w h → (K w.params).In h) (hg : ∀ ns : List Int, ns.length ≤ 63 → g [.scr ns] = .ok (.bl true))
    (F : ∀ (w : World) (mg : Str → Option Value) (fa : Addr) (h : Heap), (K w.params).In h → h.Ns mainGlobals mg → mg d.name = some (.ref fa) → LawT l.prog w (K w.params) q k x mg fa g) :
    PySem.W.WalkO q loose XP YP l.row.toRowW d [] (fun f vs => PySem.call f vs) := by
  refine Att.attach_callB hn hdf fun w s₀ s₁ mg mb fa o pm cd doc a vs ns G Y ho hd hcd hmg hobj hints hlen hbits hg' => ?_
  have KX := hY w _ Y
  obtain ⟨tn, fd, ts, hl, ht, hb, hF⟩ := F w mg fa _ KX G.T.g hmg
  have emp : ∀ t ∈ ts, s₁.heap.get? t.2.2.2 = some { cls := .none, data := .fields #[] } := fun t htm => by
    obtain ⟨hrec, hmt, hk⟩ := ht t htm
    obtain ⟨⟨o1, fd1, k1, k2, k3⟩, _, ⟨e, dd, vs1, sl, k4, k5⟩, _⟩ := tabKB_some hk
    obtain ⟨dL, hm, hn1⟩ := List.any_eq_true.mp hrec
    have hn2 : dL.name = t.1 := beq_iff_eq.mp hn1
    obtain ⟨a', o', fd', c', P', h1, h2, h3, h4, h5, h6⟩ := G.T.tab dL hm
    rw [hn2, hmt] at h1
    cases h1
    have g1 := KX _ _ k1
    rw [g1] at h2
    cases h2
    rw [k2] at h3
    cases h3
    rw [k3] at h4
    cases h4
    obtain ⟨⟨oc, vc, e1, _, e3, e4⟩, hP⟩ := h6
    have g2 := KX _ _ k4
    rw [g2] at e1
    cases e1
    cases e3
    rw [k5] at e4
    cases e4
    exact hP
  refine LamX.law_callTs (cs := ts.map (·.2.2)) KX G.T.g G.T.b G.T.builtins G.T.nolimit hg' (fun p hp => ?_) (fun p hp => ?_) (fun p hp => ?_) G.T.bmain hobj hints (Nat.le_trans hlen (by rw [sizeLine_eq]; decide)) hr (fun base h1 h2 h3 => hF base h1 h2 fun t htm => h3 t.2.2 (List.mem_map.mpr ⟨t, htm, rfl⟩)) hb (fun H hH hS => ?_) fun H e s' c => ?_
  · obtain ⟨t, htm, rfl⟩ := List.mem_map.mp hp
    exact emp t htm
  · obtain ⟨t, htm, rfl⟩ := List.mem_map.mp hp
    exact (tabKB_some (ht t htm).2.2).2.2.2
  · obtain ⟨t, htm, rfl⟩ := List.mem_map.mp hp
    exact PySem.W.codeHd_of_K KX (tabKB_some (ht t htm).2.2).2.1
  · refine ⟨nT H, [.scr ns], nT_same H, tt_start (cs := ts.map (·.2.2)) (by rw [hl, List.map_map]; rfl) hH, .cons (.scr (sqL_nT hS)) .nil, ?_⟩
    rw [hg ns hlen]
    intro F' H' _ v kv
    cases (show Rep _ F' v (.bl true) from kv)
    rfl
  · obtain ⟨a, B, H', cls, d, rfl, fl, hok, ub, na, os, ag, hE⟩ := c
    exact hE
end Mir
namespace Mir
open PySem PySem.Spec PyProof.Rows L2
variable [Tn]
@[simp] def tupD (ds : List D) : Res D := if ds.length ≤ lim then .ok (.tup ds) else .bad
def raiseD (c : Nat) (ds : List D) (r : Env) : Oc := if ds.length = (cflds c).length ∧ ds.length ≤ 1000 then .er (.exc c ds.reverse) r else .bad
theorem boot_ty_int : bootBuiltins "int" = some (.type "int") := by decide +kernel
theorem boot_ty_bool : bootBuiltins "bool" = some (.type "bool") := by decide +kernel
theorem boot_ty_tuple : bootBuiltins "tuple" = some (.type "tuple") := by decide +kernel
theorem boot_ty_list : bootBuiltins "list" = some (.type "list") := by decide +kernel
theorem boot_ty_dict : bootBuiltins "dict" = some (.type "dict") := by decide +kernel
/-- a name's own value is shared behind a statement -/
def shareAt (i : Nat) : Oc → Oc
  | .nx r => .nx (freeze i r)
  | o => o
theorem rs_shareLc {X : Cx} {W : Wi} {k : Kd} (i : Nat) {s : Stmt} {g : Env → Oc} (h : RS X W k s g) : RS X W k s (fun r => shareAt i (g r)) :=
  h.imp fun D σ H ⟨H0, F0, fp, F, r, m, o⟩ => ⟨H0, F0, fp, F, r, m, by
    have o : OutS (gOf X) W k H0 F0 F D (shareAt i (g r)) := o
    show OutS (gOf X) W k H0 F0 F D (g r)
    cases e : g r with
    | nx r' =>
      rw [e] at o
      intro fp' F' σ' H' s' m'
      obtain ⟨F2, s2, m2⟩ := m'.freeze i
      exact o fp' F2 σ' H' (s'.trans s2) m2
    | rt d => rw [e] at o; exact o
    | bk r' => rw [e] at o; exact o
    | ct r' => rw [e] at o; exact o
    | er x r' => rw [e] at o; exact o
    | bad => rw [e] at o; exact o⟩
theorem re_gI {X : Cx} {W : Wi} {x : Str} {pos : Pos} {i : Int} (hm : ∃ t, X.mg x = some (.int i t)) (hg : Gl X x := by rfl) (hd : (x == ("__debug__" : Str)) = false := by decide) : RE X W .S (.Name x pos) (fun _ => .ok (.int i)) :=
  let ⟨_, h⟩ := hm
  re_gInt h hg hd
/-- how many turns of a while are looked after -/
@[irreducible] def turns : Nat := 1000000
theorem turns_eq : turns = 1000000 := by unfold turns; rfl
/-- a while of at most so many turns -/
def loopD (c : Env → Res Bool) (b : Env → Oc) (r : Env) : Oc := whileD c b turns r
theorem rs_loop {X : Cx} {W : Wi} {k : Kd} {c : Expr} {body : List Stmt} {pos : Pos} {f : Env → Res Bool} {gb : Env → Oc} (hp : PassesOwn (model X.prog X.w) X.A X.env X.xe) (hc : RT X W c f) (hb : RSs X W k body gb) : RS X W k (.While c body [] pos) (loopD f gb) := rs_while hp hc hb fun _ => turns
end Mir
namespace Mir
open PySem PySem.Spec PyProof.Rows L2
variable [Tn]
def okQ : Nat → D → Bool
  | _, .non => true
  | _, .bl _ => true
  | _, .int _ => true
  | _, .str s => PyData.strOk s
  | n + 1, .tup xs => xs.all (okQ n)
  | n + 1, .lst xs => xs.all (okQ n)
  | _, _ => false
mutual
def eqQ : D → D → Bool
  | .non, .non => true
  | .bl a, .bl b => a == b
  | .bl a, .int j => (if a = true then 1 else 0) == j
  | .int i, .bl b => i == (if b = true then 1 else 0)
  | .int i, .int j => i == j
  | .str x, .str y => x == y
  | .lst xs, .lst ys => eqQs xs ys
  | .tup xs, .tup ys => eqQs xs ys
  | _, _ => false
def eqQs : List D → List D → Bool
  | [], [] => true
  | x :: xs, y :: ys => eqQ x y && eqQs xs ys
  | _, _ => false
end
theorem toPy_ok : ∀ (n : Nat) (d : D), okQ n d = true → ∃ p, toPy d = some p ∧ p.canLay0 = true ∧ p.depth ≤ n := by
  have all : ∀ (n : Nat), (∀ d, okQ n d = true → ∃ p, toPy d = some p ∧ p.canLay0 = true ∧ p.depth ≤ n) → ∀ xs : List D, xs.all (okQ n) = true → ∃ ps, toPy.toPys xs = some ps ∧ PyData.canLayAll0 ps = true ∧ PyData.depthAll ps ≤ n := fun n h xs => by
    induction xs with
    | nil => exact fun _ => ⟨[], by rw [toPy.toPys], by rw [PyData.canLayAll0], by rw [PyData.depthAll]; omega⟩
    | cons x xs ih =>
      intro hx
      rw [List.all_cons, Bool.and_eq_true] at hx
      obtain ⟨p, h1, h2, h3⟩ := h x hx.1
      obtain ⟨ps, h4, h5, h6⟩ := ih hx.2
      exact ⟨p :: ps, by rw [toPy.toPys, h1, h4], by rw [PyData.canLayAll0, h2, h5]; rfl, by rw [PyData.depthAll]; omega⟩
  intro n
  induction n with
  | zero =>
    intro d h
    cases d with
    | non => exact ⟨.none, by rw [toPy], by rw [PyData.canLay0], by rw [PyData.depth]; omega⟩
    | bl b => exact ⟨.bool b, by rw [toPy], by rw [PyData.canLay0], by rw [PyData.depth]; omega⟩
    | int i => exact ⟨.int i, by rw [toPy], by rw [PyData.canLay0], by rw [PyData.depth]; omega⟩
    | str s => exact ⟨.str s, by rw [toPy], by rw [PyData.canLay0]; simpa [okQ] using h, by rw [PyData.depth]; omega⟩
    | _ => simp [okQ] at h
  | succ n ih =>
    intro d h
    cases d with
    | non => exact ⟨.none, by rw [toPy], by rw [PyData.canLay0], by rw [PyData.depth]; omega⟩
    | bl b => exact ⟨.bool b, by rw [toPy], by rw [PyData.canLay0], by rw [PyData.depth]; omega⟩
    | int i => exact ⟨.int i, by rw [toPy], by rw [PyData.canLay0], by rw [PyData.depth]; omega⟩
    | str s => exact ⟨.str s, by rw [toPy], by rw [PyData.canLay0]; simpa [okQ] using h, by rw [PyData.depth]; omega⟩
    | tup xs =>
      obtain ⟨ps, h1, h2, h3⟩ := all n ih xs (by simpa [okQ] using h)
      exact ⟨.tuple ps, by rw [toPy, h1]; rfl, by rw [PyData.canLay0, h2], by rw [PyData.depth]; omega⟩
    | lst xs =>
      obtain ⟨ps, h1, h2, h3⟩ := all n ih xs (by simpa [okQ] using h)
      exact ⟨.list ps, by rw [toPy, h1]; rfl, by rw [PyData.canLay0, h2], by rw [PyData.depth]; omega⟩
    | _ => simp [okQ] at h
theorem eqv_eqQ : ∀ (n : Nat) (a b : D) (p q : PyData), okQ n a = true → toPy a = some p → toPy b = some q → PyData.eqv p q = eqQ a b := by
  have all : ∀ (n : Nat), (∀ (a b : D) (p q : PyData), okQ n a = true → toPy a = some p → toPy b = some q → PyData.eqv p q = eqQ a b) → ∀ (xs ys : List D) (ps qs : List PyData), xs.all (okQ n) = true → toPy.toPys xs = some ps → toPy.toPys ys = some qs → PyData.eqvAll ps qs = eqQs xs ys := fun n h xs => by
    induction xs with
    | nil =>
      intro ys ps qs _ h1 h2
      rw [toPy.toPys] at h1
      cases h1
      cases ys with
      | nil => rw [toPy.toPys] at h2; cases h2; simp [PyData.eqvAll, eqQs]
      | cons y ys =>
        rw [toPy.toPys] at h2
        split at h2
        · cases h2; simp [PyData.eqvAll, eqQs]
        · cases h2
    | cons x xs ih =>
      intro ys ps qs h0 h1 h2
      rw [List.all_cons, Bool.and_eq_true] at h0
      rw [toPy.toPys] at h1
      split at h1
      · rename_i p ps' e1 e2
        cases h1
        cases ys with
        | nil => rw [toPy.toPys] at h2; cases h2; simp [PyData.eqvAll, eqQs]
        | cons y ys =>
          rw [toPy.toPys] at h2
          split at h2
          · rename_i q qs' e3 e4
            cases h2
            rw [PyData.eqvAll, eqQs, h x y p q h0.1 e1 e3, ih ys ps' qs' h0.2 e2 e4]
          · cases h2
      · cases h1
  intro n
  induction n with
  | zero =>
    intro a b p q h0 h1 h2
    cases a <;> first | (simp [okQ] at h0; done) | skip
    all_goals (simp only [toPy, Option.some.injEq] at h1; subst h1)
    all_goals cases b
    all_goals first
      | (simp only [toPy, Option.some.injEq] at h2; subst h2; simp [PyData.eqv, eqQ]; done)
      | (simp only [toPy, Option.map_eq_some_iff] at h2; obtain ⟨qs, _, h2⟩ := h2; subst h2; simp [PyData.eqv, eqQ]; done)
      | (simp [toPy] at h2; done)
  | succ n ih =>
    intro a b p q h0 h1 h2
    cases a <;> first | (simp [okQ] at h0; done) | skip
    all_goals first
      | (simp only [toPy, Option.some.injEq] at h1; subst h1)
      | (simp only [toPy, Option.map_eq_some_iff] at h1; obtain ⟨ps, e1, h1⟩ := h1; subst h1)
    all_goals cases b
    all_goals first
      | (simp only [toPy, Option.some.injEq] at h2; subst h2; simp [PyData.eqv, eqQ]; done)
      | (simp only [toPy, Option.map_eq_some_iff] at h2; obtain ⟨qs, e2, h2⟩ := h2; subst h2; first | (simp [PyData.eqv, eqQ]; done) | (rw [PyData.eqv, eqQ]; exact all n ih _ _ _ _ (by simpa [okQ] using h0) e1 e2))
      | (simp [toPy] at h2; done)
theorem eqS_ok {a b : D} (ha : okQ 64 a = true) (hb : okQ 64 b = true) : eqS a b = .ok (.bl (eqQ a b)) := by
  obtain ⟨p, h1, h2, h3⟩ := toPy_ok 64 a ha
  obtain ⟨q, h4, h5, h6⟩ := toPy_ok 64 b hb
  unfold eqS
  rw [h1, h4]
  have s1 : SeqAt.shaped p = true := by unfold SeqAt.shaped; rw [h2]; simpa using h3
  have s2 : SeqAt.shaped q = true := by unfold SeqAt.shaped; rw [h5]; simpa using h6
  simp only [s1, s2, and_self, if_true, eqv_eqQ 64 a b p q ha h1 h4]
theorem neS_ok {a b : D} (ha : okQ 64 a = true) (hb : okQ 64 b = true) : neS a b = .ok (.bl (!eqQ a b)) := by
  obtain ⟨p, h1, h2, h3⟩ := toPy_ok 64 a ha
  obtain ⟨q, h4, h5, h6⟩ := toPy_ok 64 b hb
  unfold neS
  rw [h1, h4]
  have s1 : SeqAt.shaped p = true := by unfold SeqAt.shaped; rw [h2]; simpa using h3
  have s2 : SeqAt.shaped q = true := by unfold SeqAt.shaped; rw [h5]; simpa using h6
  simp only [s1, s2, and_self, if_true, eqv_eqQ 64 a b p q ha h1 h4]
theorem eqQ_refl : ∀ (n : Nat) (a : D), okQ n a = true → eqQ a a = true := by
  have all : ∀ n, (∀ a, okQ n a = true → eqQ a a = true) → ∀ xs : List D, xs.all (okQ n) = true → eqQs xs xs = true := fun n h xs => by
    induction xs with
    | nil => intro _; rw [eqQs]
    | cons x xs ih =>
      intro h0
      rw [List.all_cons, Bool.and_eq_true] at h0
      rw [eqQs, h x h0.1, ih h0.2]
      rfl
  intro n
  induction n with
  | zero =>
    intro a h
    cases a <;> first | (simp [okQ] at h; done) | simp [eqQ]
  | succ n ih =>
    intro a h
    cases a <;> first | (simp [okQ] at h; done) | (simp [eqQ]; done) | (rw [eqQ]; exact all n ih _ (by simpa [okQ] using h))
/-- a tuple, a list of whole numbers -/
abbrev tuI (xs : List Int) : D := .tup (xs.map .int)
abbrev liI (xs : List Int) : D := .lst (xs.map .int)
theorem okQ_ints (n : Nat) (xs : List Int) : (xs.map D.int).all (okQ n) = true := by
  rw [List.all_eq_true]
  intro x hx
  obtain ⟨i, _, rfl⟩ := List.mem_map.mp hx
  cases n <;> rfl
@[simp] theorem okQ_int (n : Nat) (i : Int) : okQ n (.int i) = true := by cases n <;> rfl
@[simp] theorem okQ_bl (n : Nat) (i : Bool) : okQ n (.bl i) = true := by cases n <;> rfl
@[simp] theorem okQ_non (n : Nat) : okQ n .non = true := by cases n <;> rfl
@[simp] theorem okQ_str (n : Nat) (s : Str) : okQ n (.str s) = PyData.strOk s := by cases n <;> rfl
@[simp] theorem okQ_tI (n : Nat) (xs : List Int) : okQ (n + 1) (tuI xs) = true := okQ_ints n xs
theorem eqQs_ints : ∀ xs ys : List Int, eqQs (xs.map D.int) (ys.map D.int) = decide (xs = ys)
  | [], [] => by simp [eqQs]
  | [], _ :: _ => by simp [eqQs]
  | _ :: _, [] => by simp [eqQs]
  | x :: xs, y :: ys => by
    rw [List.map_cons, List.map_cons, eqQs, eqQs_ints xs ys, eqQ]
    by_cases h : x = y <;> by_cases h2 : xs = ys <;> simp [h, h2]
@[simp] theorem eqS_int (i j : Int) : eqS (.int i) (.int j) = .ok (.bl (decide (i = j))) := by
  rw [eqS_ok (by simp) (by simp), eqQ]
  by_cases h : i = j <;> simp [h]
@[simp] theorem neS_int (i j : Int) : neS (.int i) (.int j) = .ok (.bl (!decide (i = j))) := by
  rw [neS_ok (by simp) (by simp), eqQ]
  by_cases h : i = j <;> simp [h]
@[simp] theorem addD_int (i j : Int) : addD (.int i) (.int j) = .ok (.int (i + j)) := rfl
@[simp] theorem subD_int (i j : Int) : subD (.int i) (.int j) = .ok (.int (i - j)) := rfl
theorem modD_ok {i j : Int} (h : 0 < j) : modD (.int i) (.int j) = .ok (.int (i % j)) := if_pos h
theorem mulD_small {i j : Int} (h : CMul i j) : mulD (.int i) (.int j) = .ok (.int (i * j)) := by
  show (if bits i + bits j < 1000000 ∨ CMul i j then _ else _) = _
  rw [if_pos (.inr h)]
theorem divD_ok {i j : Int} (h : 0 < j) (h2 : bits j < 250) : divD (.int i) (.int j) = .ok (.int (i / j)) := if_pos ⟨h, by omega⟩
@[simp] theorem gtD_int (i j : Int) : gtD (.int i) (.int j) = .ok (.bl (decide (j < i))) := rfl
@[simp] theorem ltD_int (i j : Int) : ltD (.int i) (.int j) = .ok (.bl (decide (i < j))) := rfl
@[simp] theorem leD_int (i j : Int) : leD (.int i) (.int j) = .ok (.bl (decide (i ≤ j))) := rfl
@[simp] theorem geD_int (i j : Int) : geD (.int i) (.int j) = .ok (.bl (decide (j ≤ i))) := rfl
@[simp] theorem asB_bl (b : Bool) : asB (.bl b) = .ok b := rfl
@[simp] theorem getS0 (d : D) (r : Env) : getS 0 (.sh d :: r) = .ok d := rfl
@[simp] theorem getR0 (d : D) (r : Env) : getR 0 (.sh d :: r) = .ok d := rfl
@[simp] theorem getR0o (d : D) (r : Env) : getR 0 (.ow .flat d :: r) = .ok d := rfl
@[simp] theorem getS_succ (i : Nat) (x : Slot) (r : Env) : getS (i + 1) (x :: r) = getS i r := by simp [getS]
@[simp] theorem getR_succ (i : Nat) (x : Slot) (r : Env) : getR (i + 1) (x :: r) = getR i r := by simp [getR]
@[simp] theorem lenD_lst (xs : List D) : lenD (.lst xs) = .ok (.int xs.length) := rfl
@[simp] theorem lenD_tup (xs : List D) : lenD (.tup xs) = .ok (.int xs.length) := rfl
@[simp] theorem lenD_scr (xs : List Int) : lenD (.scr xs) = .ok (.int xs.length) := rfl
@[simp] theorem sumD_scr (xs : List Int) : sumD (.scr xs) = .ok (.int xs.sum) := rfl
@[simp] theorem seq_ite (c : Prop) [Decidable c] (a b : Oc) (g : Env → Oc) : (if c then a else b).seq g = if c then a.seq g else b.seq g := by split <;> rfl
theorem runD_rt {p n : Nat} {g : Env → Oc} {ds : List D} {d : D} (h : ds.length = p) (e : g (startD n ds) = .rt d) : runD p n g ds = .ok d := by
  unfold runD
  rw [if_pos h, e]
theorem lcD_map {g : D → Env → Res Env} {t : Env → Res Bool} {f : Env → Res D} {r : Env} (F : D → D) : ∀ {ds : List D}, (∀ d ∈ ds, ∃ r1, g d r = .ok r1 ∧ t r1 = .ok true ∧ f r1 = .ok (F d)) → lcD g t f r ds = .ok (ds.map F)
  | [], _ => rfl
  | d :: ds, h => by
    obtain ⟨r1, h1, h2, h3⟩ := h d List.mem_cons_self
    rw [lcD, h1]
    simp only [nE_ok, ok_bind, h2, if_true, h3, lcD_map F fun d hd => h d (List.mem_cons_of_mem _ hd)]
    rfl
theorem forD_ix {f : D → Env → Oc} {ds : List D} (P : Nat → Env → Prop) (h : ∀ i d, ds[i]? = some d → ∀ r, P i r → ∃ r', f d r = .nx r' ∧ P (i + 1) r') {r : Env} (h0 : P 0 r) : ∃ r', forD f ds r = .nx r' ∧ P ds.length r' := by
  have go : ∀ (ds : List D) (k : Nat) (r : Env), (∀ i d, ds[i]? = some d → ∀ r, P (k + i) r → ∃ r', f d r = .nx r' ∧ P (k + i + 1) r') → P k r → ∃ r', forD f ds r = .nx r' ∧ P (k + ds.length) r' := fun ds => by
    induction ds with
    | nil => exact fun k r _ h0 => ⟨r, rfl, h0⟩
    | cons d ds ih =>
      intro k r h h0
      obtain ⟨r1, h1, h2⟩ := h 0 d rfl r h0
      obtain ⟨r2, h3, h4⟩ := ih (k + 1) r1 (fun i e he r hr => by
        have z := h (i + 1) e (by simpa using he) r (by rw [show k + (i + 1) = k + 1 + i by omega]; exact hr)
        rw [show k + (i + 1) + 1 = k + 1 + i + 1 by omega] at z
        exact z) h2
      refine ⟨r2, ?_, by rw [List.length_cons, show k + (ds.length + 1) = k + 1 + ds.length by omega]; exact h4⟩
      rw [forD_cons, h1]
      exact h3
  obtain ⟨r', h1, h2⟩ := go ds 0 r (fun i d hd r hr => by
    rw [Nat.zero_add] at hr ⊢
    exact h i d hd r hr) h0
  exact ⟨r', h1, by rw [Nat.zero_add] at h2; exact h2⟩
@[simp] theorem rangeL_zero (lo : Int) : rangeL lo 0 = [] := rfl
theorem rng1_ok {n : Int} (h0 : -1000000000 ≤ n) (h1 : n ≤ 1000000000) : rng1 [.int n] = .ok (rangeL 0 n.toNat) := if_pos ⟨h0, h1⟩
@[simp] theorem rangeL_len (lo : Int) (n : Nat) : (rangeL lo n).length = n := by simp [rangeL]
end Mir
namespace Mir
open PySem PySem.Spec PyProof.Rows L2
variable [Tn]
def SIt (h : Heap) (k : Bool) (it l : Addr) (i : Nat) : Prop := match k with
  | true => h.IsListIter it l i
  | false => h.IsTupleIter it l i
def SSrc (h : Heap) (k : Bool) (l : Addr) (items : Array Value) : Prop := match k with
  | true => h.IsList l items
  | false => h.IsTuple l items
def clsI : Bool → String
  | true => "list_iterator"
  | false => "tuple_iterator"
theorem SIt.at {h h' : Heap} {k : Bool} {it l : Addr} {i : Nat} (x : SIt h k it l i) (f : ∀ o, h.get? it = some o → h'.get? it = some o) : SIt h' k it l i := by
  cases k with
  | true => exact Heap.IsListIter.at (show h.IsListIter it l i from x) f
  | false => exact Heap.IsTupleIter.at (show h.IsTupleIter it l i from x) f
theorem SIt.ob {h : Heap} {k : Bool} {it l : Addr} {i : Nat} (x : SIt h k it l i) : ∃ o, h.get? it = some o ∧ ∀ v, o.data ≠ .cell v := by
  cases k with
  | true =>
    obtain ⟨o, e, _, d⟩ := (show h.IsListIter it l i from x)
    exact ⟨o, e, fun v q => by rw [d] at q; cases q⟩
  | false =>
    obtain ⟨o, e, _, d⟩ := (show h.IsTupleIter it l i from x)
    exact ⟨o, e, fun v q => by rw [d] at q; cases q⟩
theorem SIt.lt {h : Heap} {k : Bool} {it l : Addr} {i : Nat} (x : SIt h k it l i) : it < h.objs.size := let ⟨_, e, _⟩ := x.ob; Heap.lt_size e
theorem SSrc.at {h h' : Heap} {k : Bool} {l : Addr} {xs : Array Value} (x : SSrc h k l xs) (f : ∀ o, h.get? l = some o → h'.get? l = some o) : SSrc h' k l xs := by
  cases k with
  | true => exact Heap.IsList.at (show h.IsList l xs from x) f
  | false =>
    obtain ⟨o, e, r⟩ := (show h.IsTuple l xs from x)
    exact ⟨o, f o e, r⟩
theorem SSrc.lt {h : Heap} {k : Bool} {l : Addr} {xs : Array Value} (x : SSrc h k l xs) : l < h.objs.size := by
  cases k with
  | true =>
    obtain ⟨o, e, _⟩ := (show h.IsList l xs from x)
    exact Heap.lt_size e
  | false =>
    obtain ⟨o, e, _⟩ := (show h.IsTuple l xs from x)
    exact Heap.lt_size e
abbrev IsT (h : Heap) (T : Addr) (vs : Array Value) : Prop := h.get? T = some { cls := .type "tuple", data := .seq vs }
section
variable {prog : Program} {w : World} {A : Around} {E : Value → Shared → Prop} {s : Shared}
theorem nextS_item {k : Bool} {it l : Addr} {i : Nat} {items : Array Value} {x : Value} {Q : Value → Shared → Prop} (hit : SIt s.heap k it l i) (hl : SSrc s.heap k l items) (hx : items[i]? = some x)
    (hQ : ∀ h', SIt h' k it l (i + 1) → Heap.SameBut it s.heap h' → Q x { s with heap := h' }) : wpAny (model prog w) A (Builtin.SmallTypes.nextOf (.ref it)) Q E s := by
  cases k with
  | true => exact wpAny_nextOf_list_item hit hl hx hQ
  | false => exact RZ.nextOf_tuple_item hit hl hx hQ
theorem nextS_end {k : Bool} {it l : Addr} {i : Nat} {items : Array Value} {Q : Value → Shared → Prop} (hh : A.handled = none) (hit : SIt s.heap k it l i) (hl : SSrc s.heap k l items) (hx : items[i]? = none)
    (hE : ∀ h' e, Heap.ExtBut it s.heap h' → (∃ o, h'.get? e = some o ∧ o.cls = .type "StopIteration") → E (.ref e) { s with heap := h' }) : wpAny (model prog w) A (Builtin.SmallTypes.nextOf (.ref it)) Q E s := by
  cases k with
  | true => exact wpAny_nextOf_list_end hh hit hl hx hE
  | false => exact RZ.nextOf_tuple_end hh hit hl hx hE
theorem updT {T : Addr} {vs : Array Value} {x : Value} {k : Nat} {Q : Unit → Shared → Prop} (hT : IsT s.heap T vs) (hs : vs.size ≤ 3) (h : ∀ h', IsT h' T (vs.setIfInBounds k x) → Heap.SameBut T s.heap h' → Q () { s with heap := h' }) :
    wpAny (model prog w) A (updateSeq T (·.setIfInBounds k x)) Q E s := by
  have hl : vs.size ≤ sizeLine := Nat.le_trans hs (by rw [sizeLine_eq]; decide)
  refine wpAny_updateSeq hT rfl (hz := hl) (_hz' := by simpa using Nat.le_succ_of_le hl) (h _ ?_ (Heap.SameBut.update ..))
  show Heap.get? _ _ = _
  rw [Heap.get?_update_self _ hT rfl]
  simp [Obj.mapSeq]
theorem iterS {k : Bool} {l : Addr} {items : Array Value} {Q : Value → Shared → Prop} (hl : SSrc s.heap k l items) (h : Q (.ref s.heap.objs.size) { s with heap := s.heap.push { cls := .type (clsI k), data := .fields #[.ref l, .int 0 0] } }) :
    wpAny (model prog w) A (pyIter (.ref l)) Q E s := by
  cases k with
  | true => exact wpAny_pyIter_list hl h
  | false => exact wpAny_pyIter_tuple hl h
end
structure ZA2 (z TI TO i1 i2 l1 l2 : Addr) : Prop where
  TIz : TI ≠ z
  TOz : TO ≠ z
  TITO : TI ≠ TO
  i1z : i1 ≠ z
  TIi1 : TI ≠ i1
  TOi1 : TO ≠ i1
  l1z : l1 ≠ z
  l1TO : l1 ≠ TO
  l1i1 : l1 ≠ i1
  l1i2 : l1 ≠ i2
  i1i2 : i1 ≠ i2
  i2z : i2 ≠ z
  TIi2 : TI ≠ i2
  TOi2 : TO ≠ i2
  l2z : l2 ≠ z
  l2TO : l2 ≠ TO
  l2i1 : l2 ≠ i1
  l2i2 : l2 ≠ i2
section
variable {prog : Program} {w : World} {A : Around} {E : Value → Shared → Prop} {s : Shared}
theorem zip2_item {z TI TO i1 i2 l1 l2 : Addr} {k1 k2 : Bool} {p : Nat} {xs1 xs2 : Array Value} {x1 x2 o1 o2 : Value} {Q : Value → Shared → Prop} (D : ZA2 z TI TO i1 i2 l1 l2) (hz : IsZip s.heap z TI TO .none) (hTI : IsT s.heap TI #[.ref i1, .ref i2]) (hTO : IsT s.heap TO #[o1, o2]) (h1 : SIt s.heap k1 i1 l1 p) (hl1 : SSrc s.heap k1 l1 xs1) (h2 : SIt s.heap k2 i2 l2 p) (hl2 : SSrc s.heap k2 l2 xs2) (hx1 : xs1[p]? = some x1) (hx2 : xs2[p]? = some x2)
    (hQ : ∀ h', IsZip h' z TI TO (rawInt s.heap.objs.size) → IsT h' TO #[x1, x2] → SIt h' k1 i1 l1 (p + 1) → SIt h' k2 i2 l2 (p + 1) → IsT h' s.heap.objs.size #[x1, x2] → h'.objs.size = s.heap.objs.size + 1 → (∀ c o, c ≠ z → c ≠ TO → c ≠ i1 → c ≠ i2 → s.heap.get? c = some o → h'.get? c = some o) → Q (.ref s.heap.objs.size) { s with heap := h' }) :
    wpAny (model prog w) A (Builtin.«zip.__next__» ⟨[.ref z], []⟩) (fun fin s' => ∃ v, fin = .done (.ret v) ∧ Q v s') E s := by
  show wpAny _ _ (field (.ref z) 2 >>= _) _ _ _
  refine wpAny_bind (wpAny_field hz rfl (x := .bool false) rfl ?_)
  show wpAny _ _ (field (.ref z) 3 >>= _) _ _ _
  refine wpAny_bind (wpAny_field hz rfl (x := .ref TI) rfl ?_)
  refine wpAny_bind (wpAny_seqItems hTI rfl ?_)
  show wpAny _ _ (Builtin.SmallTypes.ownedTupleIsFree (.ref z) >>= _) _ _ _
  refine wpAny_bind ?_
  unfold Builtin.SmallTypes.ownedTupleIsFree
  refine wpAny_bind (wpAny_field hz rfl (x := .none) rfl (wpAny_pure ?_))
  simp only [if_true]
  refine wpAny_bind (wpAny_rule ?_)
  refine wpAny_bind (wpAny_field hz rfl (x := .ref TO) rfl ?_)
  refine wpAny_bind (wpAny_setField_rec hz (by simp) fun g0 zz0 s0 => ?_)
  replace zz0 : IsZip g0 z TI TO .ellipsis := zz0
  have K0 : ∀ c o, c ≠ z → s.heap.get? c = some o → g0.get? c = some o := fun c o c1 e => s0.extBut _ _ c1 e
  have T0 : IsT g0 TO #[o1, o2] := K0 _ _ D.TOz hTO
  have Z0 : g0.objs.size = s.heap.objs.size := s0.1
  refine wpAny_bind ?_
  simp only [List.zipIdx_cons, List.zipIdx_nil, List.forIn_cons, List.forIn_nil]
  refine wpAny_bind (wpAny_bind (wpAny_onRaise ?_))
  show wpAny _ _ (Builtin.SmallTypes.nextOf (.ref i1) >>= _) _ _ _
  have I1 : SIt g0 k1 i1 l1 p := h1.at fun o e => K0 _ o (D.i1z) e
  have L1 : SSrc g0 k1 l1 xs1 := hl1.at fun o e => K0 _ o (D.l1z) e
  refine wpAny_bind (nextS_item I1 L1 hx1 fun a1 n1 sa1 => wpAny_pure ?_)
  have Ta1 : IsT a1 TO #[o1, o2] := sa1.extBut _ _ (D.TOi1) T0
  refine wpAny_bind (wpAny_seqItems Ta1 rfl ?_)
  refine wpAny_bind (updT Ta1 (by simp) fun g1 T1 st1 => ?_)
  replace T1 : IsT g1 TO #[x1, o2] := T1
  have K1 : ∀ c o, c ≠ z → c ≠ TO → c ≠ i1 → s.heap.get? c = some o → g1.get? c = some o := fun c o c0 c1 c2 e => st1.extBut _ _ c1 (sa1.extBut _ _ c2 (K0 c o c0 e))
  have zz1 : IsZip g1 z TI TO .ellipsis := st1.extBut _ _ (D.TOz.symm) (sa1.extBut _ _ (D.i1z.symm) zz0)
  have Z1 : g1.objs.size = s.heap.objs.size := by rw [st1.1, sa1.1, Z0]
  have N1_1 : SIt g1 k1 i1 l1 (p + 1) := n1.at fun o e => st1.extBut _ _ (D.TOi1.symm) e
  refine wpAny_bind (wpAny_letGo (wpAny_pure ?_))
  refine wpAny_bind (wpAny_bind (wpAny_onRaise ?_))
  show wpAny _ _ (Builtin.SmallTypes.nextOf (.ref i2) >>= _) _ _ _
  have I2 : SIt g1 k2 i2 l2 p := h2.at fun o e => K1 _ o (D.i2z) (D.TOi2.symm) (D.i1i2.symm) e
  have L2 : SSrc g1 k2 l2 xs2 := hl2.at fun o e => K1 _ o (D.l2z) (D.l2TO) (D.l2i1) e
  refine wpAny_bind (nextS_item I2 L2 hx2 fun a2 n2 sa2 => wpAny_pure ?_)
  have Ta2 : IsT a2 TO #[x1, o2] := sa2.extBut _ _ (D.TOi2) T1
  refine wpAny_bind (wpAny_seqItems Ta2 rfl ?_)
  refine wpAny_bind (updT Ta2 (by simp) fun g2 T2 st2 => ?_)
  replace T2 : IsT g2 TO #[x1, x2] := T2
  have K2 : ∀ c o, c ≠ z → c ≠ TO → c ≠ i1 → c ≠ i2 → s.heap.get? c = some o → g2.get? c = some o := fun c o c0 c1 c2 c3 e => st2.extBut _ _ c1 (sa2.extBut _ _ c3 (K1 c o c0 c1 c2 e))
  have zz2 : IsZip g2 z TI TO .ellipsis := st2.extBut _ _ (D.TOz.symm) (sa2.extBut _ _ (D.i2z.symm) zz1)
  have Z2 : g2.objs.size = s.heap.objs.size := by rw [st2.1, sa2.1, Z1]
  have N2_2 : SIt g2 k2 i2 l2 (p + 1) := n2.at fun o e => st2.extBut _ _ (D.TOi2.symm) e
  have N1_2 : SIt g2 k1 i1 l1 (p + 1) := N1_1.at fun o e => st2.extBut _ _ (D.TOi1.symm) (sa2.extBut _ _ (D.i1i2) e)
  refine wpAny_bind (wpAny_letGo (wpAny_pure (wpAny_pure ?_)))
  refine wpAny_bind (wpAny_seqItems T2 rfl ?_)
  refine wpAny_bind (wpAny_newTuple ?_)
  show wpAny _ _ (Builtin.SmallTypes.ownedTupleHandOut (.ref z) (.ref g2.objs.size) >>= _) _ _ _
  refine wpAny_bind ?_
  unfold Builtin.SmallTypes.ownedTupleHandOut
  have hzl : z < g2.objs.size := Heap.lt_size zz2
  have zp : IsZip (g2.push { cls := .type "tuple", data := .seq #[x1, x2] }) z TI TO .ellipsis := Heap.get?_push_of_some _ zz2
  refine wpAny_bind (wpAny_setField_rec zp (by simp) fun e7 z7 s7 => ?_)
  replace z7 : IsZip e7 z TI TO (rawInt g2.objs.size) := z7
  refine wpAny_setField_rec z7 (by simp) fun e8 z8 s8 => ?_
  replace z8 : IsZip e8 z TI TO (rawInt g2.objs.size) := z8
  have up : ∀ c o, c ≠ z → g2.get? c = some o → e8.get? c = some o := fun c o c1 e => s8.extBut _ _ c1 (s7.extBut _ _ c1 (Heap.get?_push_of_some _ e))
  have t8 : IsT e8 g2.objs.size #[x1, x2] := s8.extBut _ _ (Nat.ne_of_gt hzl) (s7.extBut _ _ (Nat.ne_of_gt hzl) (Heap.get?_push_size _ rfl))
  have y8 : e8.objs.size = g2.objs.size + 1 := by rw [s8.1, s7.1, Heap.size_push]
  rw [Z2] at z8 t8 y8
  refine wpAny_pure ⟨_, rfl, ?_⟩
  show Q (.ref g2.objs.size) _
  rw [Z2]
  exact hQ e8 z8 (up _ _ D.TOz T2) (N1_2.at fun o e => up _ o D.i1z e) (N2_2.at fun o e => up _ o D.i2z e) t8 y8 fun c o c0 c1 c2 c3 e => up c o c0 (K2 c o c0 c1 c2 c3 e)
theorem zip2_end {z TI TO i1 i2 l1 l2 : Addr} {k1 k2 : Bool} {p : Nat} {xs1 xs2 : Array Value} {o1 o2 : Value} {Q : Fin → Shared → Prop} (hh : A.handled = none) (D : ZA2 z TI TO i1 i2 l1 l2) (hz : IsZip s.heap z TI TO .none) (hTI : IsT s.heap TI #[.ref i1, .ref i2]) (hTO : IsT s.heap TO #[o1, o2]) (h1 : SIt s.heap k1 i1 l1 p) (hl1 : SSrc s.heap k1 l1 xs1) (h2 : SIt s.heap k2 i2 l2 p) (hl2 : SSrc s.heap k2 l2 xs2) (hend : xs1[p]? = none ∨ xs2[p]? = none)
    (hE : ∀ h' e, (∀ c o, c ≠ z → c ≠ TO → c ≠ i1 → c ≠ i2 → s.heap.get? c = some o → h'.get? c = some o) → (∃ o, h'.get? e = some o ∧ o.cls = .type "StopIteration") → E (.ref e) { s with heap := h' }) :
    wpAny (model prog w) A (Builtin.«zip.__next__» ⟨[.ref z], []⟩) Q E s := by
  show wpAny _ _ (field (.ref z) 2 >>= _) _ _ _
  refine wpAny_bind (wpAny_field hz rfl (x := .bool false) rfl ?_)
  show wpAny _ _ (field (.ref z) 3 >>= _) _ _ _
  refine wpAny_bind (wpAny_field hz rfl (x := .ref TI) rfl ?_)
  refine wpAny_bind (wpAny_seqItems hTI rfl ?_)
  show wpAny _ _ (Builtin.SmallTypes.ownedTupleIsFree (.ref z) >>= _) _ _ _
  refine wpAny_bind ?_
  unfold Builtin.SmallTypes.ownedTupleIsFree
  refine wpAny_bind (wpAny_field hz rfl (x := .none) rfl (wpAny_pure ?_))
  simp only [if_true]
  refine wpAny_bind (wpAny_rule ?_)
  refine wpAny_bind (wpAny_field hz rfl (x := .ref TO) rfl ?_)
  refine wpAny_bind (wpAny_setField_rec hz (by simp) fun g0 zz0 s0 => ?_)
  replace zz0 : IsZip g0 z TI TO .ellipsis := zz0
  have K0 : ∀ c o, c ≠ z → s.heap.get? c = some o → g0.get? c = some o := fun c o c1 e => s0.extBut _ _ c1 e
  have T0 : IsT g0 TO #[o1, o2] := K0 _ _ D.TOz hTO
  have Z0 : g0.objs.size = s.heap.objs.size := s0.1
  refine wpAny_bind ?_
  simp only [List.zipIdx_cons, List.zipIdx_nil, List.forIn_cons, List.forIn_nil]
  refine wpAny_bind (wpAny_bind (wpAny_onRaise ?_))
  show wpAny _ _ (Builtin.SmallTypes.nextOf (.ref i1) >>= _) _ _ _
  have I1 : SIt g0 k1 i1 l1 p := h1.at fun o e => K0 _ o (D.i1z) e
  have L1 : SSrc g0 k1 l1 xs1 := hl1.at fun o e => K0 _ o (D.l1z) e
  cases hx1 : xs1[p]? with
  | none =>
    refine wpAny_bind (nextS_end hh I1 L1 hx1 fun ae e xe he => ?_)
    obtain ⟨oe, hoe, hce⟩ := he
    have ze : IsZip ae z TI TO .ellipsis := xe _ _ (D.i1z.symm) zz0
    have hez : e ≠ z := fun q => by subst q; rw [ze] at hoe; cases hoe; simp at hce
    refine wpAny_setField_rec ze (by simp) fun be _ sb => hE be e (fun c o c0 c1 c2 c3 q => sb.extBut _ _ c0 (xe _ _ c2 (K0 c o c0 q))) ⟨oe, sb.extBut _ _ hez hoe, hce⟩
  | some x1 =>
    refine wpAny_bind (nextS_item I1 L1 hx1 fun a1 n1 sa1 => wpAny_pure ?_)
    have Ta1 : IsT a1 TO #[o1, o2] := sa1.extBut _ _ (D.TOi1) T0
    refine wpAny_bind (wpAny_seqItems Ta1 rfl ?_)
    refine wpAny_bind (updT Ta1 (by simp) fun g1 T1 st1 => ?_)
    replace T1 : IsT g1 TO #[x1, o2] := T1
    have K1 : ∀ c o, c ≠ z → c ≠ TO → c ≠ i1 → s.heap.get? c = some o → g1.get? c = some o := fun c o c0 c1 c2 e => st1.extBut _ _ c1 (sa1.extBut _ _ c2 (K0 c o c0 e))
    have zz1 : IsZip g1 z TI TO .ellipsis := st1.extBut _ _ (D.TOz.symm) (sa1.extBut _ _ (D.i1z.symm) zz0)
    have Z1 : g1.objs.size = s.heap.objs.size := by rw [st1.1, sa1.1, Z0]
    have N1_1 : SIt g1 k1 i1 l1 (p + 1) := n1.at fun o e => st1.extBut _ _ (D.TOi1.symm) e
    refine wpAny_bind (wpAny_letGo (wpAny_pure ?_))
    refine wpAny_bind (wpAny_bind (wpAny_onRaise ?_))
    show wpAny _ _ (Builtin.SmallTypes.nextOf (.ref i2) >>= _) _ _ _
    have I2 : SIt g1 k2 i2 l2 p := h2.at fun o e => K1 _ o (D.i2z) (D.TOi2.symm) (D.i1i2.symm) e
    have L2 : SSrc g1 k2 l2 xs2 := hl2.at fun o e => K1 _ o (D.l2z) (D.l2TO) (D.l2i1) e
    cases hx2 : xs2[p]? with
    | none =>
      refine wpAny_bind (nextS_end hh I2 L2 hx2 fun ae e xe he => ?_)
      obtain ⟨oe, hoe, hce⟩ := he
      have ze : IsZip ae z TI TO .ellipsis := xe _ _ (D.i2z.symm) zz1
      have hez : e ≠ z := fun q => by subst q; rw [ze] at hoe; cases hoe; simp at hce
      refine wpAny_setField_rec ze (by simp) fun be _ sb => hE be e (fun c o c0 c1 c2 c3 q => sb.extBut _ _ c0 (xe _ _ c3 (K1 c o c0 c1 c2 q))) ⟨oe, sb.extBut _ _ hez hoe, hce⟩
    | some x2 =>
      rcases hend with q | q
      · rw [hx1] at q; cases q
      · rw [hx2] at q; cases q
theorem pyNext_zip2 {z TI TO i1 i2 l1 l2 : Addr} {k1 k2 : Bool} {p : Nat} {xs1 xs2 : Array Value} {x1 x2 o1 o2 : Value} {Q : Option Value → Shared → Prop} (D : ZA2 z TI TO i1 i2 l1 l2) (hz : IsZip s.heap z TI TO .none) (hTI : IsT s.heap TI #[.ref i1, .ref i2]) (hTO : IsT s.heap TO #[o1, o2]) (h1 : SIt s.heap k1 i1 l1 p) (hl1 : SSrc s.heap k1 l1 xs1) (h2 : SIt s.heap k2 i2 l2 p) (hl2 : SSrc s.heap k2 l2 xs2) (hx1 : xs1[p]? = some x1) (hx2 : xs2[p]? = some x2)
    (hQ : ∀ h', IsZip h' z TI TO (rawInt s.heap.objs.size) → IsT h' TO #[x1, x2] → SIt h' k1 i1 l1 (p + 1) → SIt h' k2 i2 l2 (p + 1) → IsT h' s.heap.objs.size #[x1, x2] → h'.objs.size = s.heap.objs.size + 1 → (∀ c o, c ≠ z → c ≠ TO → c ≠ i1 → c ≠ i2 → s.heap.get? c = some o → h'.get? c = some o) → Q (some (.ref s.heap.objs.size)) { s with heap := h' }) :
    wpAny (model prog w) A (pyNext (.ref z)) Q E s := by
  have hT : s.TypeIs (.ref z) "zip" := ⟨_, hz, rfl⟩
  unfold pyNext
  exact wpAny_bind (wpAny_attempt (wpAny_callSpecial?_slot (name := Str.ofString "__next__") hT F.slot_zip_next (wpAny_call_entry F.slot_zip_next hT F.entry_zip_next (zip2_item D hz hTI hTO h1 hl1 h2 hl2 hx1 hx2 fun h' a0 a1 a2 a3 a4 a5 a6 => wpAny_pure (hQ h' a0 a1 a2 a3 a4 a5 a6)) (F.args_zip_next_1 _))))
theorem pyNext_zip2_end {z TI TO i1 i2 l1 l2 : Addr} {k1 k2 : Bool} {p : Nat} {xs1 xs2 : Array Value} {o1 o2 : Value} {Q : Option Value → Shared → Prop} (hh : A.handled = none) (D : ZA2 z TI TO i1 i2 l1 l2) (hz : IsZip s.heap z TI TO .none) (hTI : IsT s.heap TI #[.ref i1, .ref i2]) (hTO : IsT s.heap TO #[o1, o2]) (h1 : SIt s.heap k1 i1 l1 p) (hl1 : SSrc s.heap k1 l1 xs1) (h2 : SIt s.heap k2 i2 l2 p) (hl2 : SSrc s.heap k2 l2 xs2) (hend : xs1[p]? = none ∨ xs2[p]? = none)
    (hQ : ∀ h', (∀ c o, c ≠ z → c ≠ TO → c ≠ i1 → c ≠ i2 → s.heap.get? c = some o → h'.get? c = some o) → Q none { s with heap := h' }) : wpAny (model prog w) A (pyNext (.ref z)) Q E s := by
  have hT : s.TypeIs (.ref z) "zip" := ⟨_, hz, rfl⟩
  unfold pyNext
  refine wpAny_bind (wpAny_attempt (wpAny_callSpecial?_slot (name := Str.ofString "__next__") hT F.slot_zip_next (wpAny_call_entry F.slot_zip_next hT F.entry_zip_next (zip2_end hh D hz hTI hTO h1 hl1 h2 hl2 hend fun h' e hk he => ?_) (F.args_zip_next_1 _))))
  obtain ⟨o, ho, hc⟩ := he
  refine wpAny_bind (wpAny_isInstance (T := "StopIteration") (b := true) ⟨o, ho, hc⟩ isSubtype_stop ?_)
  exact wpAny_pure (hQ _ hk)
end
abbrev zH2_1 (h : Heap) (k1 : Bool) (l1 : Addr) : Heap := h.push { cls := .type (clsI k1), data := .fields #[.ref l1, .int 0 0] }
abbrev zH2_2 (h : Heap) (k1 k2 : Bool) (l1 l2 : Addr) : Heap := (zH2_1 h k1 l1).push { cls := .type (clsI k2), data := .fields #[.ref l2, .int 0 0] }
abbrev zH2_T (h : Heap) (k1 k2 : Bool) (l1 l2 : Addr) : Heap := (zH2_2 h k1 k2 l1 l2).push { cls := .type "tuple", data := .seq #[.ref h.objs.size, .ref (zH2_1 h k1 l1).objs.size] }
abbrev zH2_O (h : Heap) (k1 k2 : Bool) (l1 l2 : Addr) : Heap := (zH2_T h k1 k2 l1 l2).push { cls := .type "tuple", data := .seq #[.none, .none] }
abbrev zH2_Z (h : Heap) (k1 k2 : Bool) (l1 l2 : Addr) : Heap := (zH2_O h k1 k2 l1 l2).push { cls := .type "zip", data := .fields #[.none, .bool false, .bool false, .ref (zH2_2 h k1 k2 l1 l2).objs.size, .ref (zH2_T h k1 k2 l1 l2).objs.size] }
theorem meets_zip2 (k1 k2 : Bool) (l1 l2 : Addr) (xs1 xs2 : Array Value) :
    Meets (Builtin.«zip.__new__» ⟨[.type "zip", .ref l1, .ref l2], []⟩) (fun _ R s => (SSrc s.heap k1 l1 xs1 ∧ SSrc s.heap k2 l2 xs2) ∧ R (.ok (.ret (.ref (zH2_O s.heap k1 k2 l1 l2).objs.size))) { s with heap := zH2_Z s.heap k1 k2 l1 l2 }) :=
  .of_wp fun prog w A R s h => by
    obtain ⟨hp, g, d, tk, os⟩ := s; obtain ⟨⟨hl1, hl2⟩, h⟩ := h
    have hsub := sub_zip
    have M1 : SSrc (Shared.heap ⟨hp, g, d, tk, os⟩) k1 l1 xs1 := hl1
    have M2 : SSrc (Shared.heap ⟨(hp.push { cls := .type (clsI k1), data := .fields #[.ref l1, .int 0 0] }), g, d, tk, os⟩) k2 l2 xs2 := hl2.at fun o e => Heap.get?_push_of_some _ (e)
    wp_walk using iterS M1, iterS M2
    exact ⟨_, rfl, h⟩
theorem tc_zip2 (a1 a2 : Value) : checkTypeCall "zip" ⟨[a1, a2], []⟩ = pure () := by kernel_rfl
theorem nc_zip2 (a1 a2 : Value) : checkBuiltinCall "zip.__new__" ⟨[.type "zip", a1, a2], []⟩ = pure () := by kernel_rfl
theorem ai_zip2 (b a1 a2 : Value) : argsOk "object.__init__" ⟨[b, a1, a2], []⟩ := by
  unfold argsOk; rw [signature?_of (id := "object.__init__") (n := ['_', '_', 't', 'i', 'n', 'i', '_', '_']) (o := ['t', 'c', 'e', 'j', 'b', 'o']) (by kernel_rfl) F.owner_object]; kernel_rfl
section
variable {prog : Program} {w : World} {A : Around} {E : Value → Shared → Prop} {s : Shared}
theorem call_zip2 {k1 k2 : Bool} {l1 l2 : Addr} {xs1 xs2 : Array Value} {Q : Value → Shared → Prop} (hl1 : SSrc s.heap k1 l1 xs1) (hl2 : SSrc s.heap k2 l2 xs2)
    (h : ∀ h', IsZip h' (s.heap.objs.size + 4) (s.heap.objs.size + 2) (s.heap.objs.size + 3) .none → IsT h' (s.heap.objs.size + 2) #[.ref s.heap.objs.size, .ref (s.heap.objs.size + 1)] → IsT h' (s.heap.objs.size + 3) #[.none, .none] → SIt h' k1 s.heap.objs.size l1 0 → SIt h' k2 (s.heap.objs.size + 1) l2 0 → (∀ c o, s.heap.get? c = some o → h'.get? c = some o) → Q (.ref (s.heap.objs.size + 4)) { s with heap := h' }) :
    wpAny (model prog w) A (call (.type "zip") [.ref l1, .ref l2]) Q E s := by
  refine callType_new F.called_zip (by decide) (tc_zip2 _ _ ) (nc_zip2 _ _ ) (fun obj => ai_zip2 obj _ _ ) F.entry_zip_new (meets_zip2 k1 k2 l1 l2 xs1 xs2) ⟨⟨hl1, hl2⟩, ?_⟩
  have y1 : (zH2_1 s.heap k1 l1).objs.size = s.heap.objs.size + 1 := Heap.size_push ..
  have y2 : (zH2_2 s.heap k1 k2 l1 l2).objs.size = s.heap.objs.size + 2 := by rw [Heap.size_push, y1]
  have y3 : (zH2_T s.heap k1 k2 l1 l2).objs.size = s.heap.objs.size + 3 := by rw [Heap.size_push, y2]
  have y4 : (zH2_O s.heap k1 k2 l1 l2).objs.size = s.heap.objs.size + 4 := by rw [Heap.size_push, y3]
  have q0 : (zH2_Z s.heap k1 k2 l1 l2).get? s.heap.objs.size = some _ := Heap.get?_push_of_some _ (Heap.get?_push_of_some _ (Heap.get?_push_of_some _ (Heap.get?_push_of_some _ (Heap.get?_push_size _ rfl))))
  have q1 : (zH2_Z s.heap k1 k2 l1 l2).get? (zH2_1 s.heap k1 l1).objs.size = some _ := Heap.get?_push_of_some _ (Heap.get?_push_of_some _ (Heap.get?_push_of_some _ (Heap.get?_push_size _ rfl)))
  have q2 : (zH2_Z s.heap k1 k2 l1 l2).get? (zH2_2 s.heap k1 k2 l1 l2).objs.size = some _ := Heap.get?_push_of_some _ (Heap.get?_push_of_some _ (Heap.get?_push_size _ rfl))
  have q3 : (zH2_Z s.heap k1 k2 l1 l2).get? (zH2_T s.heap k1 k2 l1 l2).objs.size = some _ := Heap.get?_push_of_some _ (Heap.get?_push_size _ rfl)
  have q4 : (zH2_Z s.heap k1 k2 l1 l2).get? (zH2_O s.heap k1 k2 l1 l2).objs.size = some _ := Heap.get?_push_size _ rfl
  show _ ∧ _
  rw [y1] at q1
  rw [y1, y2] at q2
  rw [y3] at q3
  rw [y2, y3, y4] at q4
  rw [y4]
  exact ⟨⟨_, q4, rfl⟩, h _ q4 q2 q3 (show SIt _ k1 _ l1 0 by cases k1 <;> exact ⟨_, q0, rfl, rfl⟩) (show SIt _ k2 _ l2 0 by cases k2 <;> exact ⟨_, q1, rfl, rfl⟩) fun c o x => Heap.get?_push_of_some _ (Heap.get?_push_of_some _ (Heap.get?_push_of_some _ (Heap.get?_push_of_some _ (Heap.get?_push_of_some _ (x)))))⟩
theorem za2 {I l1 l2 : Nat} (e1 : l1 < I) (e2 : l2 < I) : ZA2 (I + 4) (I + 2) (I + 3) I (I + 1) l1 l2 := by
  constructor <;> (refine Nat.ne_iff_lt_or_gt.mpr ?_; omega)
end
/-- what stands at a: a list or a tuple -/
def SqS (K : PySem.W.Frag) (H : Hp) (k : Bool) (a : Addr) (xs : List V) : Prop := match k with
  | true => SqL K H a xs
  | false => SqT K H a xs
theorem SqS.keep {K : PySem.W.Frag} {H H' : Hp} {k : Bool} {a : Addr} {xs : List V} (e : Same H H') (h : SqS K H k a xs) : SqS K H' k a xs := by
  cases k with
  | true => exact e.seq (show SqL K H a xs from h)
  | false => exact Same.sqT e (show SqT K H a xs from h)
section
variable {X : Cx} {pins : List (Addr × Obj)} {σ : L2.St} {H : Hp} {s : Shared}
theorem Inv.srcS (I : L2.Inv X pins σ H s) {k : Bool} {a : Addr} {xs : List V} (h : SqS X.K H k a xs) : ∃ its : List Value, Vals xs its ∧ SSrc s.heap k a its.toArray := by
  cases k with
  | true =>
    obtain ⟨its, rv, p, _⟩ := I.list (show SqL X.K H a xs from h)
    exact ⟨its, rv, p.isList⟩
  | false =>
    obtain ⟨its, rv, p, _⟩ := I.tuple (show SqT X.K H a xs from h)
    exact ⟨its, rv, p⟩
end
/-- the items of things that stand, turn by turn, in new tuples -/
def ItZ2 (K : PySem.W.Frag) (k1 k2 : Bool) (l1 l2 : Addr) (ys1 ys2 : List V) : It :=
  ⟨fun i H => (SqS K H k1 l1 ys1 ∧ SqS K H k2 l2 ys2) ∧ i < ys1.length ∧ i < ys2.length, fun i H v H' => ∃ (T : Addr) (x1 x2 : V), v = .ref T ∧ H T = none ∧ H' = upd H T (.tup [x1, x2]) ∧ ys1[i]? = some x1 ∧ ys2[i]? = some x2, fun i H => (SqS K H k1 l1 ys1 ∧ SqS K H k2 l2 ys2) ∧ (ys1.length ≤ i ∨ ys2.length ≤ i)⟩
theorem turn_z2 {P : Program} {w : World} {K : PySem.W.Frag} {elts : List Expr} {kk : Nat} {tpos : Pos} {z TI TO i1 i2 l1 l2 : Addr} {k1 k2 : Bool} {ys1 ys2 : List V} (D : ZA2 z TI TO i1 i2 l1 l2) :
    Turn P w K (.Tuple elts kk tpos) (ItZ2 K k1 k2 l1 l2 ys1 ys2) [z, TI, TO, i1, i2] z (fun i h => IsZip h z TI TO .none ∧ IsT h TI #[.ref i1, .ref i2] ∧ (∃ o1 o2 : Value, IsT h TO #[o1, o2]) ∧ SIt h k1 i1 l1 i ∧ SIt h k2 i2 l2 i) where
  mem := by simp
  obj := fun i h ⟨hz, hTI, ⟨o1, o2, hTO⟩, h1, h2⟩ c hc => by
    have e' : c = z ∨ c = TI ∨ c = TO ∨ c = i1 ∨ c = i2 := by simpa using hc
    rcases e' with q | q | q | q | q
    · rw [q]; exact ⟨_, hz, fun v q => nomatch q⟩
    · rw [q]; exact ⟨_, hTI, fun v q => nomatch q⟩
    · rw [q]; exact ⟨_, hTO, fun v q => nomatch q⟩
    · rw [q]; exact h1.ob
    · rw [q]; exact h2.ob
  keep := fun i h h' ⟨hz, hTI, ⟨o1, o2, hTO⟩, h1, h2⟩ k => ⟨k z (by simp) _ hz, k TI (by simp) _ hTI, ⟨o1, o2, k TO (by simp) _ hTO⟩, h1.at fun o q => k i1 (by simp) o q, h2.at fun o q => k i2 (by simp) o q⟩
  item := by
    intro X hP hw hK hc i pins s σ H E I hf st hg
    subst hP hw hK
    obtain ⟨hz, hTI, ⟨o1, o2, hTO⟩, h1, h2⟩ := st
    obtain ⟨⟨q1, q2⟩, b1, b2⟩ := hg
    obtain ⟨its1, rv1, p1⟩ := Inv.srcS I q1
    have hx1 : ys1[i]? = some (ys1[i]'b1) := List.getElem?_eq_getElem b1
    generalize ys1[i]'b1 = x1 at hx1
    obtain ⟨u1, hu1, ru1⟩ := rv1.get hx1
    obtain ⟨its2, rv2, p2⟩ := Inv.srcS I q2
    have hx2 : ys2[i]? = some (ys2[i]'b2) := List.getElem?_eq_getElem b2
    generalize ys2[i]'b2 = x2 at hx2
    obtain ⟨u2, hu2, ru2⟩ := rv2.get hx2
    have hzl : z < s.heap.objs.size := Heap.lt_size hz
    refine pyNext_zip2 D hz hTI hTO h1 p1 h2 p2 (by simpa using hu1) (by simpa using hu2) fun h' z' TO' n1 n2 hT hsz hk => ?_
    refine ⟨_, rfl, wpAny_letOwnedTupleGo_zip (s := { s with heap := h' }) z' fun hq z2 sb => ?_⟩
    have hT2 : IsT hq s.heap.objs.size #[u1, u2] := (sb.2 _ (Nat.ne_of_gt hzl)).trans hT
    have new : ObjOk X.prog X.w (upd H s.heap.objs.size (.tup [x1, x2])) hq s.heap.objs.size (.tup [x1, x2]) :=
      ⟨by show 2 ≤ sizeLine; decide, [u1, u2], .cons ru1 (.cons ru2 (.nil)), ⟨_, hT2, rfl, _, rfl⟩⟩
    have I1 : L2.Inv X pins σ (upd H s.heap.objs.size (.tup [x1, x2])) { s with heap := hq } :=
      I.turnedNew (t' := s.toks) (ch := [z, TI, TO, i1, i2]) (fun c o hb q => (sb.2 c (fun q' => hb (by simp [q']))).trans (hk c o (fun q' => hb (by simp [q'])) (fun q' => hb (by simp [q'])) (fun q' => hb (by simp [q'])) (fun q' => hb (by simp [q'])) q)) hf (Nat.le_refl _) new
    refine ⟨.ref s.heap.objs.size, _, I1, rfl, ⟨_, x1, x2, rfl, I.hok.fresh (Nat.le_refl _), rfl, hx1, hx2⟩, ⟨z2, ?_, ⟨u1, u2, ?_⟩, ?_, ?_⟩, fun c hcm => ?_⟩
    · exact (sb.2 _ D.TIz).trans (hk _ _ D.TIz D.TITO D.TIi1 D.TIi2 hTI)
    · exact (sb.2 _ D.TOz).trans TO'
    · exact n1.at fun o q => (sb.2 _ D.i1z).trans q
    · exact n2.at fun o q => (sb.2 _ D.i2z).trans q
    · have hlt : c < s.heap.objs.size := by
        have e' : c = z ∨ c = TI ∨ c = TO ∨ c = i1 ∨ c = i2 := by simpa using hcm
        rcases e' with q | q | q | q | q
        · rw [q]; exact hzl
        · rw [q]; exact Heap.lt_size hTI
        · rw [q]; exact Heap.lt_size hTO
        · rw [q]; exact h1.lt
        · rw [q]; exact h2.lt
      rw [upd_ne (Nat.ne_of_lt hlt)]
      exact (hf c hcm).1
  done := by
    intro X hP hw hK hc i pins s σ H E I hf st hg
    subst hP hw hK
    obtain ⟨hz, hTI, ⟨o1, o2, hTO⟩, h1, h2⟩ := st
    obtain ⟨⟨q1, q2⟩, hend⟩ := hg
    obtain ⟨its1, rv1, p1⟩ := Inv.srcS I q1
    have e1 := rv1.length
    obtain ⟨its2, rv2, p2⟩ := Inv.srcS I q2
    have e2 := rv2.length
    have he : its1.toArray[i]? = none ∨ its2.toArray[i]? = none := by
      rcases hend with q | q
      · exact .inl (by simp; omega)
      · exact .inr (by simp; omega)
    exact pyNext_zip2_end (I.ok.hd hc) D hz hTI hTO h1 p1 h2 p2 he fun h' hk => ⟨rfl, I.turnedL (t' := s.toks) (ch := [z, TI, TO, i1, i2]) (fun c o hb q => hk c o (fun q' => hb (by simp [q'])) (fun q' => hb (by simp [q'])) (fun q' => hb (by simp [q'])) (fun q' => hb (by simp [q'])) q) hf⟩
  self := fun A i s Q E st h => wpAny_pyIter_zip st.1 h
def iZ2 (K : PySem.W.Frag) (ta : TA) : TI := fun σ H R => ta σ H fun vs H1 => ∃ (k1 k2 : Bool) (l1 l2 : Addr) (ys1 ys2 : List V), vs = [.ref l1, .ref l2] ∧ (SqS K H1 k1 l1 ys1 ∧ SqS K H1 k2 l2 ys2) ∧ R (ItZ2 K k1 k2 l1 l2 ys1 ys2) H1
theorem pi_z2 {X : Cx} {e1 e2 : Expr} {ta : TA} {p pos tpos : Pos} {elts : List Expr} {kk : Nat} (hg : Gl X "zip") (hm : X.mg "zip" = none) (ha : PA X [e1, e2] ta)
    (hs : starEach [e1, e2] X.env = (false, eval e1 X.env) :: starEach [e2] X.env := by rfl) (hpl : (backTo pos (starEach [e2] X.env)).any (·.1) = false := by rfl) :
    PI X (.Tuple elts kk tpos) (.Call (.Name "zip" p) [e1, e2] [] pos) (iZ2 X.K ta) := by
  refine ⟨fun pins s σ H R I h => ?_⟩
  refine Call_ (ld_blt I hg hm PyProof.Rows.boot_zip (PyProof.Rows.callWith_type1 (thn (ha.run pos pins s σ H _ I h) fun us s1 ⟨vs, H1, I1, r1, q1⟩ => ?_) hs hpl))
  obtain ⟨k1, k2, l1, l2, ys1, ys2, ex, ⟨q1, q2⟩, q⟩ := q1
  subst ex
  cases r1 with
  | cons r1v rr =>
    cases rr with
    | cons r2v rr =>
      cases rr
      cases r1v
      cases r2v
      obtain ⟨its1, rv1, p1⟩ := Inv.srcS I1 q1
      obtain ⟨its2, rv2, p2⟩ := Inv.srcS I1 q2
      have fresh : ∀ c, c ∈ ([s1.heap.objs.size + 4, s1.heap.objs.size + 2, s1.heap.objs.size + 3, s1.heap.objs.size, s1.heap.objs.size + 1] : List Addr) → FpOk X pins H1 c := fun c hcm => by
        have e' : c = s1.heap.objs.size + 4 ∨ c = s1.heap.objs.size + 2 ∨ c = s1.heap.objs.size + 3 ∨ c = s1.heap.objs.size ∨ c = s1.heap.objs.size + 1 := by simpa using hcm
        have hle : s1.heap.objs.size ≤ c := by rcases e' with z | z | z | z | z <;> (rw [z]; first | exact Nat.le_refl _ | exact Nat.le_add_right _ _)
        exact I1.fpOk hle (I1.hok.fresh hle)
      refine call_zip2 p1 p2 fun h' hz hTI hTO n1 n2 hk => wpAny_pyIter_zip hz ?_
      have I2 : L2.Inv X pins σ H1 { s1 with heap := h' } := I1.kept (t' := s1.toks) hk
      exact ⟨s1.heap.objs.size + 4, [s1.heap.objs.size + 4, s1.heap.objs.size + 2, s1.heap.objs.size + 3, s1.heap.objs.size, s1.heap.objs.size + 1], _, _, H1, rfl, I2, turn_z2 (za2 p1.lt p2.lt), ⟨hz, hTI, ⟨_, _, hTO⟩, n1, n2⟩, fresh, q⟩
/-- a datum's items, by their places -/
def seqQ : D → Option (List D)
  | .lst xs => some xs
  | .tup xs => some xs
  | .scr ns => some (ns.map D.int)
  | _ => none
theorem seqQ_rep {G : GC} {F H : Hp} {v : V} {d : D} {ds : List D} (s : Same F H) (r : Rep G F v d) (e : seqQ d = some ds) : ∃ k a ys, v = .ref a ∧ SqS G.K H k a ys ∧ RepAll G F ys ds := by
  cases r with
  | tup h ra => cases e; exact ⟨false, _, _, rfl, Same.sqT s h, ra⟩
  | lst h ra => cases e; exact ⟨true, _, _, rfl, .of (s _ _ h), ra⟩
  | scr h => cases e; exact ⟨true, _, _, rfl, s.seq h, ints_rep _⟩
  | _ => cases e
def zipL2 (xs ys : List D) : List D := (xs.zip ys).map fun p => .tup [p.1, p.2]
def zipL3 (xs ys zs : List D) : List D := (xs.zip (ys.zip zs)).map fun p => .tup [p.1, p.2.1, p.2.2]
def zip2D : List D → Res (List D)
  | [a, b] => match seqQ a, seqQ b with
    | some xs, some ys => .ok (zipL2 xs ys)
    | _, _ => .bad
  | _ => .bad
def zip3D : List D → Res (List D)
  | [a, b, c] => match seqQ a, seqQ b, seqQ c with
    | some xs, some ys, some zs => .ok (zipL3 xs ys zs)
    | _, _, _ => .bad
  | _ => .bad
theorem zip2D_inv (ds : List D) : (∃ a b xs ys, ds = [a, b] ∧ seqQ a = some xs ∧ seqQ b = some ys ∧ zip2D ds = .ok (zipL2 xs ys)) ∨ zip2D ds = .bad := by
  unfold zip2D
  split
  · rename_i a b
    split
    · rename_i xs ys h1 h2; exact .inl ⟨a, b, xs, ys, rfl, h1, h2, rfl⟩
    · exact .inr rfl
  · exact .inr rfl
theorem zip3D_inv (ds : List D) : (∃ a b c xs ys zs, ds = [a, b, c] ∧ seqQ a = some xs ∧ seqQ b = some ys ∧ seqQ c = some zs ∧ zip3D ds = .ok (zipL3 xs ys zs)) ∨ zip3D ds = .bad := by
  unfold zip3D
  split
  · rename_i a b c
    split
    · rename_i xs ys zs h1 h2 h3; exact .inl ⟨a, b, c, xs, ys, zs, rfl, h1, h2, h3, rfl⟩
    · exact .inr rfl
  · exact .inr rfl
theorem WalkD.zip2 {G : GC} {F : Hp} {k1 k2 : Bool} {l1 l2 : Addr} {ys1 ys2 : List V} {d1 d2 : List D} (hs : SqS G.K F k1 l1 ys1 ∧ SqS G.K F k2 l2 ys2) (r1 : RepAll G F ys1 d1) (r2 : RepAll G F ys2 d2) : WalkD G F F (ItZ2 G.K k1 k2 l1 l2 ys1 ys2) (zipL2 d1 d2) where
  goes := fun i H hi s => by
    obtain ⟨q1, q2⟩ := hs
    have w1 := r1.length
    have w2 := r2.length
    simp only [zipL2, List.length_map, List.length_zip] at hi
    exact ⟨⟨q1.keep s, q2.keep s⟩, by omega, by omega⟩
  stops := fun H s => by
    obtain ⟨q1, q2⟩ := hs
    have w1 := r1.length
    have w2 := r2.length
    refine ⟨⟨q1.keep s, q2.keep s⟩, ?_⟩
    simp only [zipL2, List.length_map, List.length_zip]
    omega
  yields := fun i F2 H2 v H3 hi s1 s2 _ ⟨T, x1, x2, e1, e2, e3, g1, g2⟩ => by
    subst e1 e3
    obtain ⟨c1, t1, m1⟩ := r1.getV g1
    obtain ⟨c2, t2, m2⟩ := r2.getV g2
    refine ⟨_, .tup [c1, c2], Grow.mk1 s2 e2, ?_, Rep.tup (.of upd_same) (.cons ((m1.mono s1).mono (Grow.mk1 s2 e2).f) (.cons ((m2.mono s1).mono (Grow.mk1 s2 e2).f) (.nil)))⟩
    unfold zipL2
    have hz : (d1.zip d2)[i]? = some (c1, c2) := List.getElem?_zip_eq_some.mpr ⟨t1, t2⟩
    rw [List.getElem?_map, hz]
    rfl
theorem ri_zip2 {X : Cx} {W : Wi} {e1 e2 : Expr} {p pos tpos : Pos} {elts : List Expr} {kk : Nat} {fa : Env → Res (List D)} (hm : X.mg "zip" = none) (ha : RA X W [e1, e2] fa) (hg : Gl X "zip" := by rfl)
    (hs : starEach [e1, e2] X.env = (false, eval e1 X.env) :: starEach [e2] X.env := by rfl) (hpl : (backTo pos (starEach [e2] X.env)).any (·.1) = false := by rfl) :
    RI X W true (.Tuple elts kk tpos) (.Call (.Name "zip" p) [e1, e2] [] pos) (fun r => fa r >>= zip2D) := by
  refine ⟨fun pins s σ H R I ⟨H0, F0, fp, F, r, m, o⟩ => (pi_z2 hg hm ha hs hpl).run pins s σ H R I ⟨H0, F0, fp, F, r, m, o.bind fun F' H' ds gr o2 vs rv => ?_⟩⟩
  rcases zip2D_inv ds with ⟨a, b, xs, ys, rfl, w1, w2, e⟩ | e
  · rw [e] at o2
    cases rv with
    | cons v1 rr =>
      cases rr with
      | cons v2 rr =>
        cases rr
        obtain ⟨k1, l1, ys1, rfl, q1, r1⟩ := seqQ_rep (Same.refl F') v1 w1
        obtain ⟨k2, l2, ys2, rfl, q2, r2⟩ := seqQ_rep (Same.refl F') v2 w2
        refine ⟨k1, k2, l1, l2, ys1, ys2, rfl, ⟨q1.keep gr.sub, q2.keep gr.sub⟩, o2 F' H' (Grow.refl gr.sub) _ (WalkD.zip2 ⟨q1, q2⟩ r1 r2)⟩
  · rw [e] at o2; exact o2.elim
structure ZA3 (z TI TO i1 i2 i3 l1 l2 l3 : Addr) : Prop where
  TIz : TI ≠ z
  TOz : TO ≠ z
  TITO : TI ≠ TO
  i1z : i1 ≠ z
  TIi1 : TI ≠ i1
  TOi1 : TO ≠ i1
  l1z : l1 ≠ z
  l1TO : l1 ≠ TO
  l1i1 : l1 ≠ i1
  l1i2 : l1 ≠ i2
  i1i2 : i1 ≠ i2
  l1i3 : l1 ≠ i3
  i1i3 : i1 ≠ i3
  i2z : i2 ≠ z
  TIi2 : TI ≠ i2
  TOi2 : TO ≠ i2
  l2z : l2 ≠ z
  l2TO : l2 ≠ TO
  l2i1 : l2 ≠ i1
  l2i2 : l2 ≠ i2
  l2i3 : l2 ≠ i3
  i2i3 : i2 ≠ i3
  i3z : i3 ≠ z
  TIi3 : TI ≠ i3
  TOi3 : TO ≠ i3
  l3z : l3 ≠ z
  l3TO : l3 ≠ TO
  l3i1 : l3 ≠ i1
  l3i2 : l3 ≠ i2
  l3i3 : l3 ≠ i3
section
variable {prog : Program} {w : World} {A : Around} {E : Value → Shared → Prop} {s : Shared}
theorem zip3_item {z TI TO i1 i2 i3 l1 l2 l3 : Addr} {k1 k2 k3 : Bool} {p : Nat} {xs1 xs2 xs3 : Array Value} {x1 x2 x3 o1 o2 o3 : Value} {Q : Value → Shared → Prop} (D : ZA3 z TI TO i1 i2 i3 l1 l2 l3) (hz : IsZip s.heap z TI TO .none) (hTI : IsT s.heap TI #[.ref i1, .ref i2, .ref i3]) (hTO : IsT s.heap TO #[o1, o2, o3]) (h1 : SIt s.heap k1 i1 l1 p) (hl1 : SSrc s.heap k1 l1 xs1) (h2 : SIt s.heap k2 i2 l2 p) (hl2 : SSrc s.heap k2 l2 xs2) (h3 : SIt s.heap k3 i3 l3 p) (hl3 : SSrc s.heap k3 l3 xs3) (hx1 : xs1[p]? = some x1) (hx2 : xs2[p]? = some x2) (hx3 : xs3[p]? = some x3)
    (hQ : ∀ h', IsZip h' z TI TO (rawInt s.heap.objs.size) → IsT h' TO #[x1, x2, x3] → SIt h' k1 i1 l1 (p + 1) → SIt h' k2 i2 l2 (p + 1) → SIt h' k3 i3 l3 (p + 1) → IsT h' s.heap.objs.size #[x1, x2, x3] → h'.objs.size = s.heap.objs.size + 1 → (∀ c o, c ≠ z → c ≠ TO → c ≠ i1 → c ≠ i2 → c ≠ i3 → s.heap.get? c = some o → h'.get? c = some o) → Q (.ref s.heap.objs.size) { s with heap := h' }) :
    wpAny (model prog w) A (Builtin.«zip.__next__» ⟨[.ref z], []⟩) (fun fin s' => ∃ v, fin = .done (.ret v) ∧ Q v s') E s := by
  show wpAny _ _ (field (.ref z) 2 >>= _) _ _ _
  refine wpAny_bind (wpAny_field hz rfl (x := .bool false) rfl ?_)
  show wpAny _ _ (field (.ref z) 3 >>= _) _ _ _
  refine wpAny_bind (wpAny_field hz rfl (x := .ref TI) rfl ?_)
  refine wpAny_bind (wpAny_seqItems hTI rfl ?_)
  show wpAny _ _ (Builtin.SmallTypes.ownedTupleIsFree (.ref z) >>= _) _ _ _
  refine wpAny_bind ?_
  unfold Builtin.SmallTypes.ownedTupleIsFree
  refine wpAny_bind (wpAny_field hz rfl (x := .none) rfl (wpAny_pure ?_))
  simp only [if_true]
  refine wpAny_bind (wpAny_rule ?_)
  refine wpAny_bind (wpAny_field hz rfl (x := .ref TO) rfl ?_)
  refine wpAny_bind (wpAny_setField_rec hz (by simp) fun g0 zz0 s0 => ?_)
  replace zz0 : IsZip g0 z TI TO .ellipsis := zz0
  have K0 : ∀ c o, c ≠ z → s.heap.get? c = some o → g0.get? c = some o := fun c o c1 e => s0.extBut _ _ c1 e
  have T0 : IsT g0 TO #[o1, o2, o3] := K0 _ _ D.TOz hTO
  have Z0 : g0.objs.size = s.heap.objs.size := s0.1
  refine wpAny_bind ?_
  simp only [List.zipIdx_cons, List.zipIdx_nil, List.forIn_cons, List.forIn_nil]
  refine wpAny_bind (wpAny_bind (wpAny_onRaise ?_))
  show wpAny _ _ (Builtin.SmallTypes.nextOf (.ref i1) >>= _) _ _ _
  have I1 : SIt g0 k1 i1 l1 p := h1.at fun o e => K0 _ o (D.i1z) e
  have L1 : SSrc g0 k1 l1 xs1 := hl1.at fun o e => K0 _ o (D.l1z) e
  refine wpAny_bind (nextS_item I1 L1 hx1 fun a1 n1 sa1 => wpAny_pure ?_)
  have Ta1 : IsT a1 TO #[o1, o2, o3] := sa1.extBut _ _ (D.TOi1) T0
  refine wpAny_bind (wpAny_seqItems Ta1 rfl ?_)
  refine wpAny_bind (updT Ta1 (by simp) fun g1 T1 st1 => ?_)
  replace T1 : IsT g1 TO #[x1, o2, o3] := T1
  have K1 : ∀ c o, c ≠ z → c ≠ TO → c ≠ i1 → s.heap.get? c = some o → g1.get? c = some o := fun c o c0 c1 c2 e => st1.extBut _ _ c1 (sa1.extBut _ _ c2 (K0 c o c0 e))
  have zz1 : IsZip g1 z TI TO .ellipsis := st1.extBut _ _ (D.TOz.symm) (sa1.extBut _ _ (D.i1z.symm) zz0)
  have Z1 : g1.objs.size = s.heap.objs.size := by rw [st1.1, sa1.1, Z0]
  have N1_1 : SIt g1 k1 i1 l1 (p + 1) := n1.at fun o e => st1.extBut _ _ (D.TOi1.symm) e
  refine wpAny_bind (wpAny_letGo (wpAny_pure ?_))
  refine wpAny_bind (wpAny_bind (wpAny_onRaise ?_))
  show wpAny _ _ (Builtin.SmallTypes.nextOf (.ref i2) >>= _) _ _ _
  have I2 : SIt g1 k2 i2 l2 p := h2.at fun o e => K1 _ o (D.i2z) (D.TOi2.symm) (D.i1i2.symm) e
  have L2 : SSrc g1 k2 l2 xs2 := hl2.at fun o e => K1 _ o (D.l2z) (D.l2TO) (D.l2i1) e
  refine wpAny_bind (nextS_item I2 L2 hx2 fun a2 n2 sa2 => wpAny_pure ?_)
  have Ta2 : IsT a2 TO #[x1, o2, o3] := sa2.extBut _ _ (D.TOi2) T1
  refine wpAny_bind (wpAny_seqItems Ta2 rfl ?_)
  refine wpAny_bind (updT Ta2 (by simp) fun g2 T2 st2 => ?_)
  replace T2 : IsT g2 TO #[x1, x2, o3] := T2
  have K2 : ∀ c o, c ≠ z → c ≠ TO → c ≠ i1 → c ≠ i2 → s.heap.get? c = some o → g2.get? c = some o := fun c o c0 c1 c2 c3 e => st2.extBut _ _ c1 (sa2.extBut _ _ c3 (K1 c o c0 c1 c2 e))
  have zz2 : IsZip g2 z TI TO .ellipsis := st2.extBut _ _ (D.TOz.symm) (sa2.extBut _ _ (D.i2z.symm) zz1)
  have Z2 : g2.objs.size = s.heap.objs.size := by rw [st2.1, sa2.1, Z1]
  have N2_2 : SIt g2 k2 i2 l2 (p + 1) := n2.at fun o e => st2.extBut _ _ (D.TOi2.symm) e
  have N1_2 : SIt g2 k1 i1 l1 (p + 1) := N1_1.at fun o e => st2.extBut _ _ (D.TOi1.symm) (sa2.extBut _ _ (D.i1i2) e)
  refine wpAny_bind (wpAny_letGo (wpAny_pure ?_))
  refine wpAny_bind (wpAny_bind (wpAny_onRaise ?_))
  show wpAny _ _ (Builtin.SmallTypes.nextOf (.ref i3) >>= _) _ _ _
  have I3 : SIt g2 k3 i3 l3 p := h3.at fun o e => K2 _ o (D.i3z) (D.TOi3.symm) (D.i1i3.symm) (D.i2i3.symm) e
  have L3 : SSrc g2 k3 l3 xs3 := hl3.at fun o e => K2 _ o (D.l3z) (D.l3TO) (D.l3i1) (D.l3i2) e
  refine wpAny_bind (nextS_item I3 L3 hx3 fun a3 n3 sa3 => wpAny_pure ?_)
  have Ta3 : IsT a3 TO #[x1, x2, o3] := sa3.extBut _ _ (D.TOi3) T2
  refine wpAny_bind (wpAny_seqItems Ta3 rfl ?_)
  refine wpAny_bind (updT Ta3 (by simp) fun g3 T3 st3 => ?_)
  replace T3 : IsT g3 TO #[x1, x2, x3] := T3
  have K3 : ∀ c o, c ≠ z → c ≠ TO → c ≠ i1 → c ≠ i2 → c ≠ i3 → s.heap.get? c = some o → g3.get? c = some o := fun c o c0 c1 c2 c3 c4 e => st3.extBut _ _ c1 (sa3.extBut _ _ c4 (K2 c o c0 c1 c2 c3 e))
  have zz3 : IsZip g3 z TI TO .ellipsis := st3.extBut _ _ (D.TOz.symm) (sa3.extBut _ _ (D.i3z.symm) zz2)
  have Z3 : g3.objs.size = s.heap.objs.size := by rw [st3.1, sa3.1, Z2]
  have N3_3 : SIt g3 k3 i3 l3 (p + 1) := n3.at fun o e => st3.extBut _ _ (D.TOi3.symm) e
  have N1_3 : SIt g3 k1 i1 l1 (p + 1) := N1_2.at fun o e => st3.extBut _ _ (D.TOi1.symm) (sa3.extBut _ _ (D.i1i3) e)
  have N2_3 : SIt g3 k2 i2 l2 (p + 1) := N2_2.at fun o e => st3.extBut _ _ (D.TOi2.symm) (sa3.extBut _ _ (D.i2i3) e)
  refine wpAny_bind (wpAny_letGo (wpAny_pure (wpAny_pure ?_)))
  refine wpAny_bind (wpAny_seqItems T3 rfl ?_)
  refine wpAny_bind (wpAny_newTuple ?_)
  show wpAny _ _ (Builtin.SmallTypes.ownedTupleHandOut (.ref z) (.ref g3.objs.size) >>= _) _ _ _
  refine wpAny_bind ?_
  unfold Builtin.SmallTypes.ownedTupleHandOut
  have hzl : z < g3.objs.size := Heap.lt_size zz3
  have zp : IsZip (g3.push { cls := .type "tuple", data := .seq #[x1, x2, x3] }) z TI TO .ellipsis := Heap.get?_push_of_some _ zz3
  refine wpAny_bind (wpAny_setField_rec zp (by simp) fun e7 z7 s7 => ?_)
  replace z7 : IsZip e7 z TI TO (rawInt g3.objs.size) := z7
  refine wpAny_setField_rec z7 (by simp) fun e8 z8 s8 => ?_
  replace z8 : IsZip e8 z TI TO (rawInt g3.objs.size) := z8
  have up : ∀ c o, c ≠ z → g3.get? c = some o → e8.get? c = some o := fun c o c1 e => s8.extBut _ _ c1 (s7.extBut _ _ c1 (Heap.get?_push_of_some _ e))
  have t8 : IsT e8 g3.objs.size #[x1, x2, x3] := s8.extBut _ _ (Nat.ne_of_gt hzl) (s7.extBut _ _ (Nat.ne_of_gt hzl) (Heap.get?_push_size _ rfl))
  have y8 : e8.objs.size = g3.objs.size + 1 := by rw [s8.1, s7.1, Heap.size_push]
  rw [Z3] at z8 t8 y8
  refine wpAny_pure ⟨_, rfl, ?_⟩
  show Q (.ref g3.objs.size) _
  rw [Z3]
  exact hQ e8 z8 (up _ _ D.TOz T3) (N1_3.at fun o e => up _ o D.i1z e) (N2_3.at fun o e => up _ o D.i2z e) (N3_3.at fun o e => up _ o D.i3z e) t8 y8 fun c o c0 c1 c2 c3 c4 e => up c o c0 (K3 c o c0 c1 c2 c3 c4 e)
theorem zip3_end {z TI TO i1 i2 i3 l1 l2 l3 : Addr} {k1 k2 k3 : Bool} {p : Nat} {xs1 xs2 xs3 : Array Value} {o1 o2 o3 : Value} {Q : Fin → Shared → Prop} (hh : A.handled = none) (D : ZA3 z TI TO i1 i2 i3 l1 l2 l3) (hz : IsZip s.heap z TI TO .none) (hTI : IsT s.heap TI #[.ref i1, .ref i2, .ref i3]) (hTO : IsT s.heap TO #[o1, o2, o3]) (h1 : SIt s.heap k1 i1 l1 p) (hl1 : SSrc s.heap k1 l1 xs1) (h2 : SIt s.heap k2 i2 l2 p) (hl2 : SSrc s.heap k2 l2 xs2) (h3 : SIt s.heap k3 i3 l3 p) (hl3 : SSrc s.heap k3 l3 xs3) (hend : xs1[p]? = none ∨ xs2[p]? = none ∨ xs3[p]? = none)
    (hE : ∀ h' e, (∀ c o, c ≠ z → c ≠ TO → c ≠ i1 → c ≠ i2 → c ≠ i3 → s.heap.get? c = some o → h'.get? c = some o) → (∃ o, h'.get? e = some o ∧ o.cls = .type "StopIteration") → E (.ref e) { s with heap := h' }) :
    wpAny (model prog w) A (Builtin.«zip.__next__» ⟨[.ref z], []⟩) Q E s := by
  show wpAny _ _ (field (.ref z) 2 >>= _) _ _ _
  refine wpAny_bind (wpAny_field hz rfl (x := .bool false) rfl ?_)
  show wpAny _ _ (field (.ref z) 3 >>= _) _ _ _
  refine wpAny_bind (wpAny_field hz rfl (x := .ref TI) rfl ?_)
  refine wpAny_bind (wpAny_seqItems hTI rfl ?_)
  show wpAny _ _ (Builtin.SmallTypes.ownedTupleIsFree (.ref z) >>= _) _ _ _
  refine wpAny_bind ?_
  unfold Builtin.SmallTypes.ownedTupleIsFree
  refine wpAny_bind (wpAny_field hz rfl (x := .none) rfl (wpAny_pure ?_))
  simp only [if_true]
  refine wpAny_bind (wpAny_rule ?_)
  refine wpAny_bind (wpAny_field hz rfl (x := .ref TO) rfl ?_)
  refine wpAny_bind (wpAny_setField_rec hz (by simp) fun g0 zz0 s0 => ?_)
  replace zz0 : IsZip g0 z TI TO .ellipsis := zz0
  have K0 : ∀ c o, c ≠ z → s.heap.get? c = some o → g0.get? c = some o := fun c o c1 e => s0.extBut _ _ c1 e
  have T0 : IsT g0 TO #[o1, o2, o3] := K0 _ _ D.TOz hTO
  have Z0 : g0.objs.size = s.heap.objs.size := s0.1
  refine wpAny_bind ?_
  simp only [List.zipIdx_cons, List.zipIdx_nil, List.forIn_cons, List.forIn_nil]
  refine wpAny_bind (wpAny_bind (wpAny_onRaise ?_))
  show wpAny _ _ (Builtin.SmallTypes.nextOf (.ref i1) >>= _) _ _ _
  have I1 : SIt g0 k1 i1 l1 p := h1.at fun o e => K0 _ o (D.i1z) e
  have L1 : SSrc g0 k1 l1 xs1 := hl1.at fun o e => K0 _ o (D.l1z) e
  cases hx1 : xs1[p]? with
  | none =>
    refine wpAny_bind (nextS_end hh I1 L1 hx1 fun ae e xe he => ?_)
    obtain ⟨oe, hoe, hce⟩ := he
    have ze : IsZip ae z TI TO .ellipsis := xe _ _ (D.i1z.symm) zz0
    have hez : e ≠ z := fun q => by subst q; rw [ze] at hoe; cases hoe; simp at hce
    refine wpAny_setField_rec ze (by simp) fun be _ sb => hE be e (fun c o c0 c1 c2 c3 c4 q => sb.extBut _ _ c0 (xe _ _ c2 (K0 c o c0 q))) ⟨oe, sb.extBut _ _ hez hoe, hce⟩
  | some x1 =>
    refine wpAny_bind (nextS_item I1 L1 hx1 fun a1 n1 sa1 => wpAny_pure ?_)
    have Ta1 : IsT a1 TO #[o1, o2, o3] := sa1.extBut _ _ (D.TOi1) T0
    refine wpAny_bind (wpAny_seqItems Ta1 rfl ?_)
    refine wpAny_bind (updT Ta1 (by simp) fun g1 T1 st1 => ?_)
    replace T1 : IsT g1 TO #[x1, o2, o3] := T1
    have K1 : ∀ c o, c ≠ z → c ≠ TO → c ≠ i1 → s.heap.get? c = some o → g1.get? c = some o := fun c o c0 c1 c2 e => st1.extBut _ _ c1 (sa1.extBut _ _ c2 (K0 c o c0 e))
    have zz1 : IsZip g1 z TI TO .ellipsis := st1.extBut _ _ (D.TOz.symm) (sa1.extBut _ _ (D.i1z.symm) zz0)
    have Z1 : g1.objs.size = s.heap.objs.size := by rw [st1.1, sa1.1, Z0]
    have N1_1 : SIt g1 k1 i1 l1 (p + 1) := n1.at fun o e => st1.extBut _ _ (D.TOi1.symm) e
    refine wpAny_bind (wpAny_letGo (wpAny_pure ?_))
    refine wpAny_bind (wpAny_bind (wpAny_onRaise ?_))
    show wpAny _ _ (Builtin.SmallTypes.nextOf (.ref i2) >>= _) _ _ _
    have I2 : SIt g1 k2 i2 l2 p := h2.at fun o e => K1 _ o (D.i2z) (D.TOi2.symm) (D.i1i2.symm) e
    have L2 : SSrc g1 k2 l2 xs2 := hl2.at fun o e => K1 _ o (D.l2z) (D.l2TO) (D.l2i1) e
    cases hx2 : xs2[p]? with
    | none =>
      refine wpAny_bind (nextS_end hh I2 L2 hx2 fun ae e xe he => ?_)
      obtain ⟨oe, hoe, hce⟩ := he
      have ze : IsZip ae z TI TO .ellipsis := xe _ _ (D.i2z.symm) zz1
      have hez : e ≠ z := fun q => by subst q; rw [ze] at hoe; cases hoe; simp at hce
      refine wpAny_setField_rec ze (by simp) fun be _ sb => hE be e (fun c o c0 c1 c2 c3 c4 q => sb.extBut _ _ c0 (xe _ _ c3 (K1 c o c0 c1 c2 q))) ⟨oe, sb.extBut _ _ hez hoe, hce⟩
    | some x2 =>
      refine wpAny_bind (nextS_item I2 L2 hx2 fun a2 n2 sa2 => wpAny_pure ?_)
      have Ta2 : IsT a2 TO #[x1, o2, o3] := sa2.extBut _ _ (D.TOi2) T1
      refine wpAny_bind (wpAny_seqItems Ta2 rfl ?_)
      refine wpAny_bind (updT Ta2 (by simp) fun g2 T2 st2 => ?_)
      replace T2 : IsT g2 TO #[x1, x2, o3] := T2
      have K2 : ∀ c o, c ≠ z → c ≠ TO → c ≠ i1 → c ≠ i2 → s.heap.get? c = some o → g2.get? c = some o := fun c o c0 c1 c2 c3 e => st2.extBut _ _ c1 (sa2.extBut _ _ c3 (K1 c o c0 c1 c2 e))
      have zz2 : IsZip g2 z TI TO .ellipsis := st2.extBut _ _ (D.TOz.symm) (sa2.extBut _ _ (D.i2z.symm) zz1)
      have Z2 : g2.objs.size = s.heap.objs.size := by rw [st2.1, sa2.1, Z1]
      have N2_2 : SIt g2 k2 i2 l2 (p + 1) := n2.at fun o e => st2.extBut _ _ (D.TOi2.symm) e
      have N1_2 : SIt g2 k1 i1 l1 (p + 1) := N1_1.at fun o e => st2.extBut _ _ (D.TOi1.symm) (sa2.extBut _ _ (D.i1i2) e)
      refine wpAny_bind (wpAny_letGo (wpAny_pure ?_))
      refine wpAny_bind (wpAny_bind (wpAny_onRaise ?_))
      show wpAny _ _ (Builtin.SmallTypes.nextOf (.ref i3) >>= _) _ _ _
      have I3 : SIt g2 k3 i3 l3 p := h3.at fun o e => K2 _ o (D.i3z) (D.TOi3.symm) (D.i1i3.symm) (D.i2i3.symm) e
      have L3 : SSrc g2 k3 l3 xs3 := hl3.at fun o e => K2 _ o (D.l3z) (D.l3TO) (D.l3i1) (D.l3i2) e
      cases hx3 : xs3[p]? with
      | none =>
        refine wpAny_bind (nextS_end hh I3 L3 hx3 fun ae e xe he => ?_)
        obtain ⟨oe, hoe, hce⟩ := he
        have ze : IsZip ae z TI TO .ellipsis := xe _ _ (D.i3z.symm) zz2
        have hez : e ≠ z := fun q => by subst q; rw [ze] at hoe; cases hoe; simp at hce
        refine wpAny_setField_rec ze (by simp) fun be _ sb => hE be e (fun c o c0 c1 c2 c3 c4 q => sb.extBut _ _ c0 (xe _ _ c4 (K2 c o c0 c1 c2 c3 q))) ⟨oe, sb.extBut _ _ hez hoe, hce⟩
      | some x3 =>
        rcases hend with q | q | q
        · rw [hx1] at q; cases q
        · rw [hx2] at q; cases q
        · rw [hx3] at q; cases q
theorem pyNext_zip3 {z TI TO i1 i2 i3 l1 l2 l3 : Addr} {k1 k2 k3 : Bool} {p : Nat} {xs1 xs2 xs3 : Array Value} {x1 x2 x3 o1 o2 o3 : Value} {Q : Option Value → Shared → Prop} (D : ZA3 z TI TO i1 i2 i3 l1 l2 l3) (hz : IsZip s.heap z TI TO .none) (hTI : IsT s.heap TI #[.ref i1, .ref i2, .ref i3]) (hTO : IsT s.heap TO #[o1, o2, o3]) (h1 : SIt s.heap k1 i1 l1 p) (hl1 : SSrc s.heap k1 l1 xs1) (h2 : SIt s.heap k2 i2 l2 p) (hl2 : SSrc s.heap k2 l2 xs2) (h3 : SIt s.heap k3 i3 l3 p) (hl3 : SSrc s.heap k3 l3 xs3) (hx1 : xs1[p]? = some x1) (hx2 : xs2[p]? = some x2) (hx3 : xs3[p]? = some x3)
    (hQ : ∀ h', IsZip h' z TI TO (rawInt s.heap.objs.size) → IsT h' TO #[x1, x2, x3] → SIt h' k1 i1 l1 (p + 1) → SIt h' k2 i2 l2 (p + 1) → SIt h' k3 i3 l3 (p + 1) → IsT h' s.heap.objs.size #[x1, x2, x3] → h'.objs.size = s.heap.objs.size + 1 → (∀ c o, c ≠ z → c ≠ TO → c ≠ i1 → c ≠ i2 → c ≠ i3 → s.heap.get? c = some o → h'.get? c = some o) → Q (some (.ref s.heap.objs.size)) { s with heap := h' }) :
    wpAny (model prog w) A (pyNext (.ref z)) Q E s := by
  have hT : s.TypeIs (.ref z) "zip" := ⟨_, hz, rfl⟩
  unfold pyNext
  exact wpAny_bind (wpAny_attempt (wpAny_callSpecial?_slot (name := Str.ofString "__next__") hT F.slot_zip_next (wpAny_call_entry F.slot_zip_next hT F.entry_zip_next (zip3_item D hz hTI hTO h1 hl1 h2 hl2 h3 hl3 hx1 hx2 hx3 fun h' a0 a1 a2 a3 a4 a5 a6 a7 => wpAny_pure (hQ h' a0 a1 a2 a3 a4 a5 a6 a7)) (F.args_zip_next_1 _))))
theorem pyNext_zip3_end {z TI TO i1 i2 i3 l1 l2 l3 : Addr} {k1 k2 k3 : Bool} {p : Nat} {xs1 xs2 xs3 : Array Value} {o1 o2 o3 : Value} {Q : Option Value → Shared → Prop} (hh : A.handled = none) (D : ZA3 z TI TO i1 i2 i3 l1 l2 l3) (hz : IsZip s.heap z TI TO .none) (hTI : IsT s.heap TI #[.ref i1, .ref i2, .ref i3]) (hTO : IsT s.heap TO #[o1, o2, o3]) (h1 : SIt s.heap k1 i1 l1 p) (hl1 : SSrc s.heap k1 l1 xs1) (h2 : SIt s.heap k2 i2 l2 p) (hl2 : SSrc s.heap k2 l2 xs2) (h3 : SIt s.heap k3 i3 l3 p) (hl3 : SSrc s.heap k3 l3 xs3) (hend : xs1[p]? = none ∨ xs2[p]? = none ∨ xs3[p]? = none)
    (hQ : ∀ h', (∀ c o, c ≠ z → c ≠ TO → c ≠ i1 → c ≠ i2 → c ≠ i3 → s.heap.get? c = some o → h'.get? c = some o) → Q none { s with heap := h' }) : wpAny (model prog w) A (pyNext (.ref z)) Q E s := by
  have hT : s.TypeIs (.ref z) "zip" := ⟨_, hz, rfl⟩
  unfold pyNext
  refine wpAny_bind (wpAny_attempt (wpAny_callSpecial?_slot (name := Str.ofString "__next__") hT F.slot_zip_next (wpAny_call_entry F.slot_zip_next hT F.entry_zip_next (zip3_end hh D hz hTI hTO h1 hl1 h2 hl2 h3 hl3 hend fun h' e hk he => ?_) (F.args_zip_next_1 _))))
  obtain ⟨o, ho, hc⟩ := he
  refine wpAny_bind (wpAny_isInstance (T := "StopIteration") (b := true) ⟨o, ho, hc⟩ isSubtype_stop ?_)
  exact wpAny_pure (hQ _ hk)
end
abbrev zH3_1 (h : Heap) (k1 : Bool) (l1 : Addr) : Heap := h.push { cls := .type (clsI k1), data := .fields #[.ref l1, .int 0 0] }
abbrev zH3_2 (h : Heap) (k1 k2 : Bool) (l1 l2 : Addr) : Heap := (zH3_1 h k1 l1).push { cls := .type (clsI k2), data := .fields #[.ref l2, .int 0 0] }
abbrev zH3_3 (h : Heap) (k1 k2 k3 : Bool) (l1 l2 l3 : Addr) : Heap := (zH3_2 h k1 k2 l1 l2).push { cls := .type (clsI k3), data := .fields #[.ref l3, .int 0 0] }
abbrev zH3_T (h : Heap) (k1 k2 k3 : Bool) (l1 l2 l3 : Addr) : Heap := (zH3_3 h k1 k2 k3 l1 l2 l3).push { cls := .type "tuple", data := .seq #[.ref h.objs.size, .ref (zH3_1 h k1 l1).objs.size, .ref (zH3_2 h k1 k2 l1 l2).objs.size] }
abbrev zH3_O (h : Heap) (k1 k2 k3 : Bool) (l1 l2 l3 : Addr) : Heap := (zH3_T h k1 k2 k3 l1 l2 l3).push { cls := .type "tuple", data := .seq #[.none, .none, .none] }
abbrev zH3_Z (h : Heap) (k1 k2 k3 : Bool) (l1 l2 l3 : Addr) : Heap := (zH3_O h k1 k2 k3 l1 l2 l3).push { cls := .type "zip", data := .fields #[.none, .bool false, .bool false, .ref (zH3_3 h k1 k2 k3 l1 l2 l3).objs.size, .ref (zH3_T h k1 k2 k3 l1 l2 l3).objs.size] }
theorem meets_zip3 (k1 k2 k3 : Bool) (l1 l2 l3 : Addr) (xs1 xs2 xs3 : Array Value) :
    Meets (Builtin.«zip.__new__» ⟨[.type "zip", .ref l1, .ref l2, .ref l3], []⟩) (fun _ R s => (SSrc s.heap k1 l1 xs1 ∧ SSrc s.heap k2 l2 xs2 ∧ SSrc s.heap k3 l3 xs3) ∧ R (.ok (.ret (.ref (zH3_O s.heap k1 k2 k3 l1 l2 l3).objs.size))) { s with heap := zH3_Z s.heap k1 k2 k3 l1 l2 l3 }) :=
  .of_wp fun prog w A R s h => by
    obtain ⟨hp, g, d, tk, os⟩ := s; obtain ⟨⟨hl1, hl2, hl3⟩, h⟩ := h
    have hsub := sub_zip
    have M1 : SSrc (Shared.heap ⟨hp, g, d, tk, os⟩) k1 l1 xs1 := hl1
    have M2 : SSrc (Shared.heap ⟨(hp.push { cls := .type (clsI k1), data := .fields #[.ref l1, .int 0 0] }), g, d, tk, os⟩) k2 l2 xs2 := hl2.at fun o e => Heap.get?_push_of_some _ (e)
    have M3 : SSrc (Shared.heap ⟨((hp.push { cls := .type (clsI k1), data := .fields #[.ref l1, .int 0 0] }).push { cls := .type (clsI k2), data := .fields #[.ref l2, .int 0 0] }), g, d, tk, os⟩) k3 l3 xs3 := hl3.at fun o e => Heap.get?_push_of_some _ (Heap.get?_push_of_some _ (e))
    wp_walk using iterS M1, iterS M2, iterS M3
    exact ⟨_, rfl, h⟩
theorem tc_zip3 (a1 a2 a3 : Value) : checkTypeCall "zip" ⟨[a1, a2, a3], []⟩ = pure () := by kernel_rfl
theorem nc_zip3 (a1 a2 a3 : Value) : checkBuiltinCall "zip.__new__" ⟨[.type "zip", a1, a2, a3], []⟩ = pure () := by kernel_rfl
theorem ai_zip3 (b a1 a2 a3 : Value) : argsOk "object.__init__" ⟨[b, a1, a2, a3], []⟩ := by
  unfold argsOk; rw [signature?_of (id := "object.__init__") (n := ['_', '_', 't', 'i', 'n', 'i', '_', '_']) (o := ['t', 'c', 'e', 'j', 'b', 'o']) (by kernel_rfl) F.owner_object]; kernel_rfl
section
variable {prog : Program} {w : World} {A : Around} {E : Value → Shared → Prop} {s : Shared}
theorem call_zip3 {k1 k2 k3 : Bool} {l1 l2 l3 : Addr} {xs1 xs2 xs3 : Array Value} {Q : Value → Shared → Prop} (hl1 : SSrc s.heap k1 l1 xs1) (hl2 : SSrc s.heap k2 l2 xs2) (hl3 : SSrc s.heap k3 l3 xs3)
    (h : ∀ h', IsZip h' (s.heap.objs.size + 5) (s.heap.objs.size + 3) (s.heap.objs.size + 4) .none → IsT h' (s.heap.objs.size + 3) #[.ref s.heap.objs.size, .ref (s.heap.objs.size + 1), .ref (s.heap.objs.size + 2)] → IsT h' (s.heap.objs.size + 4) #[.none, .none, .none] → SIt h' k1 s.heap.objs.size l1 0 → SIt h' k2 (s.heap.objs.size + 1) l2 0 → SIt h' k3 (s.heap.objs.size + 2) l3 0 → (∀ c o, s.heap.get? c = some o → h'.get? c = some o) → Q (.ref (s.heap.objs.size + 5)) { s with heap := h' }) :
    wpAny (model prog w) A (call (.type "zip") [.ref l1, .ref l2, .ref l3]) Q E s := by
  refine callType_new F.called_zip (by decide) (tc_zip3 _ _ _ ) (nc_zip3 _ _ _ ) (fun obj => ai_zip3 obj _ _ _ ) F.entry_zip_new (meets_zip3 k1 k2 k3 l1 l2 l3 xs1 xs2 xs3) ⟨⟨hl1, hl2, hl3⟩, ?_⟩
  have y1 : (zH3_1 s.heap k1 l1).objs.size = s.heap.objs.size + 1 := Heap.size_push ..
  have y2 : (zH3_2 s.heap k1 k2 l1 l2).objs.size = s.heap.objs.size + 2 := by rw [Heap.size_push, y1]
  have y3 : (zH3_3 s.heap k1 k2 k3 l1 l2 l3).objs.size = s.heap.objs.size + 3 := by rw [Heap.size_push, y2]
  have y4 : (zH3_T s.heap k1 k2 k3 l1 l2 l3).objs.size = s.heap.objs.size + 4 := by rw [Heap.size_push, y3]
  have y5 : (zH3_O s.heap k1 k2 k3 l1 l2 l3).objs.size = s.heap.objs.size + 5 := by rw [Heap.size_push, y4]
  have q0 : (zH3_Z s.heap k1 k2 k3 l1 l2 l3).get? s.heap.objs.size = some _ := Heap.get?_push_of_some _ (Heap.get?_push_of_some _ (Heap.get?_push_of_some _ (Heap.get?_push_of_some _ (Heap.get?_push_of_some _ (Heap.get?_push_size _ rfl)))))
  have q1 : (zH3_Z s.heap k1 k2 k3 l1 l2 l3).get? (zH3_1 s.heap k1 l1).objs.size = some _ := Heap.get?_push_of_some _ (Heap.get?_push_of_some _ (Heap.get?_push_of_some _ (Heap.get?_push_of_some _ (Heap.get?_push_size _ rfl))))
  have q2 : (zH3_Z s.heap k1 k2 k3 l1 l2 l3).get? (zH3_2 s.heap k1 k2 l1 l2).objs.size = some _ := Heap.get?_push_of_some _ (Heap.get?_push_of_some _ (Heap.get?_push_of_some _ (Heap.get?_push_size _ rfl)))
  have q3 : (zH3_Z s.heap k1 k2 k3 l1 l2 l3).get? (zH3_3 s.heap k1 k2 k3 l1 l2 l3).objs.size = some _ := Heap.get?_push_of_some _ (Heap.get?_push_of_some _ (Heap.get?_push_size _ rfl))
  have q4 : (zH3_Z s.heap k1 k2 k3 l1 l2 l3).get? (zH3_T s.heap k1 k2 k3 l1 l2 l3).objs.size = some _ := Heap.get?_push_of_some _ (Heap.get?_push_size _ rfl)
  have q5 : (zH3_Z s.heap k1 k2 k3 l1 l2 l3).get? (zH3_O s.heap k1 k2 k3 l1 l2 l3).objs.size = some _ := Heap.get?_push_size _ rfl
  show _ ∧ _
  rw [y1] at q1
  rw [y2] at q2
  rw [y1, y2, y3] at q3
  rw [y4] at q4
  rw [y3, y4, y5] at q5
  rw [y5]
  exact ⟨⟨_, q5, rfl⟩, h _ q5 q3 q4 (show SIt _ k1 _ l1 0 by cases k1 <;> exact ⟨_, q0, rfl, rfl⟩) (show SIt _ k2 _ l2 0 by cases k2 <;> exact ⟨_, q1, rfl, rfl⟩) (show SIt _ k3 _ l3 0 by cases k3 <;> exact ⟨_, q2, rfl, rfl⟩) fun c o x => Heap.get?_push_of_some _ (Heap.get?_push_of_some _ (Heap.get?_push_of_some _ (Heap.get?_push_of_some _ (Heap.get?_push_of_some _ (Heap.get?_push_of_some _ (x))))))⟩
theorem za3 {I l1 l2 l3 : Nat} (e1 : l1 < I) (e2 : l2 < I) (e3 : l3 < I) : ZA3 (I + 5) (I + 3) (I + 4) I (I + 1) (I + 2) l1 l2 l3 := by
  constructor <;> (refine Nat.ne_iff_lt_or_gt.mpr ?_; omega)
end
/-- the items of things that stand, turn by turn, in new tuples -/
def ItZ3 (K : PySem.W.Frag) (k1 k2 k3 : Bool) (l1 l2 l3 : Addr) (ys1 ys2 ys3 : List V) : It :=
  ⟨fun i H => (SqS K H k1 l1 ys1 ∧ SqS K H k2 l2 ys2 ∧ SqS K H k3 l3 ys3) ∧ i < ys1.length ∧ i < ys2.length ∧ i < ys3.length, fun i H v H' => ∃ (T : Addr) (x1 x2 x3 : V), v = .ref T ∧ H T = none ∧ H' = upd H T (.tup [x1, x2, x3]) ∧ ys1[i]? = some x1 ∧ ys2[i]? = some x2 ∧ ys3[i]? = some x3, fun i H => (SqS K H k1 l1 ys1 ∧ SqS K H k2 l2 ys2 ∧ SqS K H k3 l3 ys3) ∧ (ys1.length ≤ i ∨ ys2.length ≤ i ∨ ys3.length ≤ i)⟩
theorem turn_z3 {P : Program} {w : World} {K : PySem.W.Frag} {elts : List Expr} {kk : Nat} {tpos : Pos} {z TI TO i1 i2 i3 l1 l2 l3 : Addr} {k1 k2 k3 : Bool} {ys1 ys2 ys3 : List V} (D : ZA3 z TI TO i1 i2 i3 l1 l2 l3) :
    Turn P w K (.Tuple elts kk tpos) (ItZ3 K k1 k2 k3 l1 l2 l3 ys1 ys2 ys3) [z, TI, TO, i1, i2, i3] z (fun i h => IsZip h z TI TO .none ∧ IsT h TI #[.ref i1, .ref i2, .ref i3] ∧ (∃ o1 o2 o3 : Value, IsT h TO #[o1, o2, o3]) ∧ SIt h k1 i1 l1 i ∧ SIt h k2 i2 l2 i ∧ SIt h k3 i3 l3 i) where
  mem := by simp
  obj := fun i h ⟨hz, hTI, ⟨o1, o2, o3, hTO⟩, h1, h2, h3⟩ c hc => by
    have e' : c = z ∨ c = TI ∨ c = TO ∨ c = i1 ∨ c = i2 ∨ c = i3 := by simpa using hc
    rcases e' with q | q | q | q | q | q
    · rw [q]; exact ⟨_, hz, fun v q => nomatch q⟩
    · rw [q]; exact ⟨_, hTI, fun v q => nomatch q⟩
    · rw [q]; exact ⟨_, hTO, fun v q => nomatch q⟩
    · rw [q]; exact h1.ob
    · rw [q]; exact h2.ob
    · rw [q]; exact h3.ob
  keep := fun i h h' ⟨hz, hTI, ⟨o1, o2, o3, hTO⟩, h1, h2, h3⟩ k => ⟨k z (by simp) _ hz, k TI (by simp) _ hTI, ⟨o1, o2, o3, k TO (by simp) _ hTO⟩, h1.at fun o q => k i1 (by simp) o q, h2.at fun o q => k i2 (by simp) o q, h3.at fun o q => k i3 (by simp) o q⟩
  item := by
    intro X hP hw hK hc i pins s σ H E I hf st hg
    subst hP hw hK
    obtain ⟨hz, hTI, ⟨o1, o2, o3, hTO⟩, h1, h2, h3⟩ := st
    obtain ⟨⟨q1, q2, q3⟩, b1, b2, b3⟩ := hg
    obtain ⟨its1, rv1, p1⟩ := Inv.srcS I q1
    have hx1 : ys1[i]? = some (ys1[i]'b1) := List.getElem?_eq_getElem b1
    generalize ys1[i]'b1 = x1 at hx1
    obtain ⟨u1, hu1, ru1⟩ := rv1.get hx1
    obtain ⟨its2, rv2, p2⟩ := Inv.srcS I q2
    have hx2 : ys2[i]? = some (ys2[i]'b2) := List.getElem?_eq_getElem b2
    generalize ys2[i]'b2 = x2 at hx2
    obtain ⟨u2, hu2, ru2⟩ := rv2.get hx2
    obtain ⟨its3, rv3, p3⟩ := Inv.srcS I q3
    have hx3 : ys3[i]? = some (ys3[i]'b3) := List.getElem?_eq_getElem b3
    generalize ys3[i]'b3 = x3 at hx3
    obtain ⟨u3, hu3, ru3⟩ := rv3.get hx3
    have hzl : z < s.heap.objs.size := Heap.lt_size hz
    refine pyNext_zip3 D hz hTI hTO h1 p1 h2 p2 h3 p3 (by simpa using hu1) (by simpa using hu2) (by simpa using hu3) fun h' z' TO' n1 n2 n3 hT hsz hk => ?_
    refine ⟨_, rfl, wpAny_letOwnedTupleGo_zip (s := { s with heap := h' }) z' fun hq z2 sb => ?_⟩
    have hT2 : IsT hq s.heap.objs.size #[u1, u2, u3] := (sb.2 _ (Nat.ne_of_gt hzl)).trans hT
    have new : ObjOk X.prog X.w (upd H s.heap.objs.size (.tup [x1, x2, x3])) hq s.heap.objs.size (.tup [x1, x2, x3]) :=
      ⟨by show 3 ≤ sizeLine; decide, [u1, u2, u3], .cons ru1 (.cons ru2 (.cons ru3 (.nil))), ⟨_, hT2, rfl, _, rfl⟩⟩
    have I1 : L2.Inv X pins σ (upd H s.heap.objs.size (.tup [x1, x2, x3])) { s with heap := hq } :=
      I.turnedNew (t' := s.toks) (ch := [z, TI, TO, i1, i2, i3]) (fun c o hb q => (sb.2 c (fun q' => hb (by simp [q']))).trans (hk c o (fun q' => hb (by simp [q'])) (fun q' => hb (by simp [q'])) (fun q' => hb (by simp [q'])) (fun q' => hb (by simp [q'])) (fun q' => hb (by simp [q'])) q)) hf (Nat.le_refl _) new
    refine ⟨.ref s.heap.objs.size, _, I1, rfl, ⟨_, x1, x2, x3, rfl, I.hok.fresh (Nat.le_refl _), rfl, hx1, hx2, hx3⟩, ⟨z2, ?_, ⟨u1, u2, u3, ?_⟩, ?_, ?_, ?_⟩, fun c hcm => ?_⟩
    · exact (sb.2 _ D.TIz).trans (hk _ _ D.TIz D.TITO D.TIi1 D.TIi2 D.TIi3 hTI)
    · exact (sb.2 _ D.TOz).trans TO'
    · exact n1.at fun o q => (sb.2 _ D.i1z).trans q
    · exact n2.at fun o q => (sb.2 _ D.i2z).trans q
    · exact n3.at fun o q => (sb.2 _ D.i3z).trans q
    · have hlt : c < s.heap.objs.size := by
        have e' : c = z ∨ c = TI ∨ c = TO ∨ c = i1 ∨ c = i2 ∨ c = i3 := by simpa using hcm
        rcases e' with q | q | q | q | q | q
        · rw [q]; exact hzl
        · rw [q]; exact Heap.lt_size hTI
        · rw [q]; exact Heap.lt_size hTO
        · rw [q]; exact h1.lt
        · rw [q]; exact h2.lt
        · rw [q]; exact h3.lt
      rw [upd_ne (Nat.ne_of_lt hlt)]
      exact (hf c hcm).1
  done := by
    intro X hP hw hK hc i pins s σ H E I hf st hg
    subst hP hw hK
    obtain ⟨hz, hTI, ⟨o1, o2, o3, hTO⟩, h1, h2, h3⟩ := st
    obtain ⟨⟨q1, q2, q3⟩, hend⟩ := hg
    obtain ⟨its1, rv1, p1⟩ := Inv.srcS I q1
    have e1 := rv1.length
    obtain ⟨its2, rv2, p2⟩ := Inv.srcS I q2
    have e2 := rv2.length
    obtain ⟨its3, rv3, p3⟩ := Inv.srcS I q3
    have e3 := rv3.length
    have he : its1.toArray[i]? = none ∨ its2.toArray[i]? = none ∨ its3.toArray[i]? = none := by
      rcases hend with q | q | q
      · exact .inl (by simp; omega)
      · exact .inr (.inl (by simp; omega))
      · exact .inr (.inr (by simp; omega))
    exact pyNext_zip3_end (I.ok.hd hc) D hz hTI hTO h1 p1 h2 p2 h3 p3 he fun h' hk => ⟨rfl, I.turnedL (t' := s.toks) (ch := [z, TI, TO, i1, i2, i3]) (fun c o hb q => hk c o (fun q' => hb (by simp [q'])) (fun q' => hb (by simp [q'])) (fun q' => hb (by simp [q'])) (fun q' => hb (by simp [q'])) (fun q' => hb (by simp [q'])) q) hf⟩
  self := fun A i s Q E st h => wpAny_pyIter_zip st.1 h
def iZ3 (K : PySem.W.Frag) (ta : TA) : TI := fun σ H R => ta σ H fun vs H1 => ∃ (k1 k2 k3 : Bool) (l1 l2 l3 : Addr) (ys1 ys2 ys3 : List V), vs = [.ref l1, .ref l2, .ref l3] ∧ (SqS K H1 k1 l1 ys1 ∧ SqS K H1 k2 l2 ys2 ∧ SqS K H1 k3 l3 ys3) ∧ R (ItZ3 K k1 k2 k3 l1 l2 l3 ys1 ys2 ys3) H1
theorem pi_z3 {X : Cx} {e1 e2 e3 : Expr} {ta : TA} {p pos tpos : Pos} {elts : List Expr} {kk : Nat} (hg : Gl X "zip") (hm : X.mg "zip" = none) (ha : PA X [e1, e2, e3] ta)
    (hs : starEach [e1, e2, e3] X.env = (false, eval e1 X.env) :: starEach [e2, e3] X.env := by rfl) (hpl : (backTo pos (starEach [e2, e3] X.env)).any (·.1) = false := by rfl) :
    PI X (.Tuple elts kk tpos) (.Call (.Name "zip" p) [e1, e2, e3] [] pos) (iZ3 X.K ta) := by
  refine ⟨fun pins s σ H R I h => ?_⟩
  refine Call_ (ld_blt I hg hm PyProof.Rows.boot_zip (PyProof.Rows.callWith_type1 (thn (ha.run pos pins s σ H _ I h) fun us s1 ⟨vs, H1, I1, r1, q1⟩ => ?_) hs hpl))
  obtain ⟨k1, k2, k3, l1, l2, l3, ys1, ys2, ys3, ex, ⟨q1, q2, q3⟩, q⟩ := q1
  subst ex
  cases r1 with
  | cons r1v rr =>
    cases rr with
    | cons r2v rr =>
      cases rr with
      | cons r3v rr =>
        cases rr
        cases r1v
        cases r2v
        cases r3v
        obtain ⟨its1, rv1, p1⟩ := Inv.srcS I1 q1
        obtain ⟨its2, rv2, p2⟩ := Inv.srcS I1 q2
        obtain ⟨its3, rv3, p3⟩ := Inv.srcS I1 q3
        have fresh : ∀ c, c ∈ ([s1.heap.objs.size + 5, s1.heap.objs.size + 3, s1.heap.objs.size + 4, s1.heap.objs.size, s1.heap.objs.size + 1, s1.heap.objs.size + 2] : List Addr) → FpOk X pins H1 c := fun c hcm => by
          have e' : c = s1.heap.objs.size + 5 ∨ c = s1.heap.objs.size + 3 ∨ c = s1.heap.objs.size + 4 ∨ c = s1.heap.objs.size ∨ c = s1.heap.objs.size + 1 ∨ c = s1.heap.objs.size + 2 := by simpa using hcm
          have hle : s1.heap.objs.size ≤ c := by rcases e' with z | z | z | z | z | z <;> (rw [z]; first | exact Nat.le_refl _ | exact Nat.le_add_right _ _)
          exact I1.fpOk hle (I1.hok.fresh hle)
        refine call_zip3 p1 p2 p3 fun h' hz hTI hTO n1 n2 n3 hk => wpAny_pyIter_zip hz ?_
        have I2 : L2.Inv X pins σ H1 { s1 with heap := h' } := I1.kept (t' := s1.toks) hk
        exact ⟨s1.heap.objs.size + 5, [s1.heap.objs.size + 5, s1.heap.objs.size + 3, s1.heap.objs.size + 4, s1.heap.objs.size, s1.heap.objs.size + 1, s1.heap.objs.size + 2], _, _, H1, rfl, I2, turn_z3 (za3 p1.lt p2.lt p3.lt), ⟨hz, hTI, ⟨_, _, _, hTO⟩, n1, n2, n3⟩, fresh, q⟩
theorem WalkD.zip3 {G : GC} {F : Hp} {k1 k2 k3 : Bool} {l1 l2 l3 : Addr} {ys1 ys2 ys3 : List V} {d1 d2 d3 : List D} (hs : SqS G.K F k1 l1 ys1 ∧ SqS G.K F k2 l2 ys2 ∧ SqS G.K F k3 l3 ys3) (r1 : RepAll G F ys1 d1) (r2 : RepAll G F ys2 d2) (r3 : RepAll G F ys3 d3) : WalkD G F F (ItZ3 G.K k1 k2 k3 l1 l2 l3 ys1 ys2 ys3) (zipL3 d1 d2 d3) where
  goes := fun i H hi s => by
    obtain ⟨q1, q2, q3⟩ := hs
    have w1 := r1.length
    have w2 := r2.length
    have w3 := r3.length
    simp only [zipL3, List.length_map, List.length_zip] at hi
    exact ⟨⟨q1.keep s, q2.keep s, q3.keep s⟩, by omega, by omega, by omega⟩
  stops := fun H s => by
    obtain ⟨q1, q2, q3⟩ := hs
    have w1 := r1.length
    have w2 := r2.length
    have w3 := r3.length
    refine ⟨⟨q1.keep s, q2.keep s, q3.keep s⟩, ?_⟩
    simp only [zipL3, List.length_map, List.length_zip]
    omega
  yields := fun i F2 H2 v H3 hi s1 s2 _ ⟨T, x1, x2, x3, e1, e2, e3, g1, g2, g3⟩ => by
    subst e1 e3
    obtain ⟨c1, t1, m1⟩ := r1.getV g1
    obtain ⟨c2, t2, m2⟩ := r2.getV g2
    obtain ⟨c3, t3, m3⟩ := r3.getV g3
    refine ⟨_, .tup [c1, c2, c3], Grow.mk1 s2 e2, ?_, Rep.tup (.of upd_same) (.cons ((m1.mono s1).mono (Grow.mk1 s2 e2).f) (.cons ((m2.mono s1).mono (Grow.mk1 s2 e2).f) (.cons ((m3.mono s1).mono (Grow.mk1 s2 e2).f) (.nil))))⟩
    unfold zipL3
    have hz : (d1.zip (d2.zip d3))[i]? = some (c1, c2, c3) := List.getElem?_zip_eq_some.mpr ⟨t1, List.getElem?_zip_eq_some.mpr ⟨t2, t3⟩⟩
    rw [List.getElem?_map, hz]
    rfl
theorem ri_zip3 {X : Cx} {W : Wi} {e1 e2 e3 : Expr} {p pos tpos : Pos} {elts : List Expr} {kk : Nat} {fa : Env → Res (List D)} (hm : X.mg "zip" = none) (ha : RA X W [e1, e2, e3] fa) (hg : Gl X "zip" := by rfl)
    (hs : starEach [e1, e2, e3] X.env = (false, eval e1 X.env) :: starEach [e2, e3] X.env := by rfl) (hpl : (backTo pos (starEach [e2, e3] X.env)).any (·.1) = false := by rfl) :
    RI X W true (.Tuple elts kk tpos) (.Call (.Name "zip" p) [e1, e2, e3] [] pos) (fun r => fa r >>= zip3D) := by
  refine ⟨fun pins s σ H R I ⟨H0, F0, fp, F, r, m, o⟩ => (pi_z3 hg hm ha hs hpl).run pins s σ H R I ⟨H0, F0, fp, F, r, m, o.bind fun F' H' ds gr o2 vs rv => ?_⟩⟩
  rcases zip3D_inv ds with ⟨a, b, c, xs, ys, zs, rfl, w1, w2, w3, e⟩ | e
  · rw [e] at o2
    cases rv with
    | cons v1 rr =>
      cases rr with
      | cons v2 rr =>
        cases rr with
        | cons v3 rr =>
          cases rr
          obtain ⟨k1, l1, ys1, rfl, q1, r1⟩ := seqQ_rep (Same.refl F') v1 w1
          obtain ⟨k2, l2, ys2, rfl, q2, r2⟩ := seqQ_rep (Same.refl F') v2 w2
          obtain ⟨k3, l3, ys3, rfl, q3, r3⟩ := seqQ_rep (Same.refl F') v3 w3
          refine ⟨k1, k2, k3, l1, l2, l3, ys1, ys2, ys3, rfl, ⟨q1.keep gr.sub, q2.keep gr.sub, q3.keep gr.sub⟩, o2 F' H' (Grow.refl gr.sub) _ (WalkD.zip3 ⟨q1, q2, q3⟩ r1 r2 r3)⟩
  · rw [e] at o2; exact o2.elim
end Mir
namespace Mir
open PySem PySem.Spec PyProof.Rows L2
variable [Tn]
def trD : D → Option Bool
  | .bl b => some b
  | .int i => some (i != 0)
  | _ => none
def trsD : List D → Option (List Bool)
  | [] => some []
  | d :: ds => match trD d, trsD ds with
    | some b, some bs => some (b :: bs)
    | _, _ => none
def trV : V → Bool → Prop := fun x b => x = .bl b ∨ ∃ i : Int, x = .int i ∧ b = (i != 0)
theorem trs_rep {G : GC} {F : Hp} : ∀ {vs : List V} {ds : List D} {bs : List Bool}, RepAll G F vs ds → trsD ds = some bs → Paired trV vs bs
  | _, _, _, .nil, e => by cases e; exact .nil
  | _, _, _, .cons (d := d) r t, e => by
    rw [trsD] at e
    split at e
    · rename_i b bs h1 h2
      cases e
      refine .cons ?_ (trs_rep t h2)
      cases d with
      | bl c => cases h1; cases r; exact .inl rfl
      | int i => cases h1; cases r; exact .inr ⟨i, rfl, rfl⟩
      | _ => cases h1
    · cases e
theorem paired_at {vs : List V} {bs : List Bool} {its : List Value} (p : Paired trV vs bs) (r : Vals vs its) : ∀ {i : Nat} {v : Value}, its[i]? = some v → ∃ x b, RelV x v ∧ trV x b ∧ bs[i]? = some b := by
  induction p generalizing its with
  | nil => cases r; intro i v h; simp at h
  | cons a l ih =>
    cases r with
    | cons q k =>
      intro i v h
      cases i with
      | zero =>
        simp at h
        subst h
        exact ⟨_, _, q, a, rfl⟩
      | succ i =>
        obtain ⟨x, b, h1, h2, h3⟩ := ih k (by simpa using h)
        exact ⟨x, b, h1, h2, by simpa using h3⟩
theorem truth_trs {prog : Program} {w : World} {A : Around} {vs : List V} {bs : List Bool} {its : List Value} (p : Paired trV vs bs) (r : Vals vs its) : TruthOf prog w A (fun i v => its.toArray[i]? = some v) (fun i => bs.getD i false) := fun i v s Q E hv hq => by
  obtain ⟨x, b, h1, h2, h3⟩ := paired_at p r (show its[i]? = some v by simpa using hv)
  have hg : bs.getD i false = b := by rw [List.getD_eq_getElem?_getD, h3] <;> rfl
  have hq' : Q (bs.getD i false) s := hq
  rw [hg] at hq'
  rcases h2 with rfl | ⟨j, rfl, rfl⟩
  · cases (show v = Value.bool b from h1)
    exact wpAny_truthy_bool hq'
  · obtain ⟨t, e⟩ := (show ∃ t, v = Value.int j t from h1)
    subst e
    exact PySem.P.truthy_int hq'
def rAnyT (K : PySem.W.Frag) : List V → Hp → VK → Prop := fun vs H Q => ∃ (k : Bool) (a : Addr) (xs : List V) (bs : List Bool), vs = [V.ref a] ∧ SqS K H k a xs ∧ Paired trV xs bs ∧ Q (.bl (bs.any id)) H
def rAllT (K : PySem.W.Frag) : List V → Hp → VK → Prop := fun vs H Q => ∃ (k : Bool) (a : Addr) (xs : List V) (bs : List Bool), vs = [V.ref a] ∧ SqS K H k a xs ∧ Paired trV xs bs ∧ Q (.bl (bs.all id)) H
theorem all_range' : ∀ bs : List Bool, (List.range bs.length).all (fun i => bs.getD i false) = bs.all id
  | [] => rfl
  | b :: bs => by
    rw [List.length_cons, List.range_succ_eq_map, List.all_cons, List.all_map, List.all_cons]
    have z := all_range' bs
    rw [← z]
    rfl
section
variable {X : Cx}
theorem walks_S {P : Program} {w : World} {A : Around} (hh : A.handled = none) (I ax : Addr) (hne : ax ≠ I) (k : Bool) (items : Array Value) : Walks P w A I [I, ax] [I] items.size (fun i v => items[i]? = some v) (fun i h => SIt h k I ax i ∧ SSrc h k ax items) := by
  cases k with
  | true => exact Walks.list hh I ax hne items
  | false => exact Walks.tuple hh I ax hne items
theorem cr_anyT (hc : X.calm = true) : CallR X (.builtin "any") (rAnyT X.K) := by
  intro pins s σ H vs us Q I r h
  obtain ⟨k, a, xs, bs, rfl, hs, pr, q⟩ := h
  obtain ⟨its, rv, hl⟩ := Inv.srcS I hs
  rw [Vals.ref1 r]
  have hlt := hl.lt
  have hlen : its.length = bs.length := by have h1 := rv.length; have h2 := Paired.length pr; omega
  refine call_any_walk (iterS hl ⟨_, _, _, _, _, _, _, rfl, walks_S (A := X.A.in1) (I.ok.hd hc) _ a (Nat.ne_of_lt hlt) k its.toArray, ⟨?_, hl.at fun o e => Heap.get?_push_of_some _ e⟩, truth_trs pr rv, fun h' tk hk => ?_⟩)
  · cases k <;> exact ⟨_, Heap.get?_push_size _ rfl, rfl, rfl⟩
  · refine ⟨.bl _, H, I.kept fun b o eo => hk b o (fun hmem => ?_) (Heap.get?_push_of_some _ eo), ?_, q⟩
    · rcases List.mem_cons.mp hmem with e1 | hmem
      · exact absurd (e1 ▸ Heap.lt_size eo) (Nat.lt_irrefl _)
      · cases hmem
    · show Value.bool _ = Value.bool _
      rw [← L2.any_range, List.size_toArray, hlen]
theorem cr_allT (hc : X.calm = true) : CallR X (.builtin "all") (rAllT X.K) := by
  intro pins s σ H vs us Q I r h
  obtain ⟨k, a, xs, bs, rfl, hs, pr, q⟩ := h
  obtain ⟨its, rv, hl⟩ := Inv.srcS I hs
  rw [Vals.ref1 r]
  have hlt := hl.lt
  have hlen : its.length = bs.length := by have h1 := rv.length; have h2 := Paired.length pr; omega
  refine call_all_walk (iterS hl ⟨_, _, _, _, _, _, _, rfl, walks_S (A := X.A.in1) (I.ok.hd hc) _ a (Nat.ne_of_lt hlt) k its.toArray, ⟨?_, hl.at fun o e => Heap.get?_push_of_some _ e⟩, truth_trs pr rv, fun h' tk hk => ?_⟩)
  · cases k <;> exact ⟨_, Heap.get?_push_size _ rfl, rfl, rfl⟩
  · refine ⟨.bl _, H, I.kept fun b o eo => hk b o (fun hmem => ?_) (Heap.get?_push_of_some _ eo), ?_, q⟩
    · rcases List.mem_cons.mp hmem with e1 | hmem
      · exact absurd (e1 ▸ Heap.lt_size eo) (Nat.lt_irrefl _)
      · cases hmem
    · show Value.bool _ = Value.bool _
      rw [← all_range', List.size_toArray, hlen]
def anyT : D → Res D
  | .lst ds => match trsD ds with
    | some bs => .ok (.bl (bs.any id))
    | none => .bad
  | .tup ds => match trsD ds with
    | some bs => .ok (.bl (bs.any id))
    | none => .bad
  | _ => .bad
def allT : D → Res D
  | .lst ds => match trsD ds with
    | some bs => .ok (.bl (bs.all id))
    | none => .bad
  | .tup ds => match trsD ds with
    | some bs => .ok (.bl (bs.all id))
    | none => .bad
  | _ => .bad
theorem b_anyT (hc : X.calm = true) (hm : X.mg "any" = none) : BlM X "any" .S (one anyT) := BlM.b hm boot_any' (cr_anyT hc) (ne_one (fun d e z => by unfold anyT at z; split at z <;> (try split at z) <;> cases z)) (cal_one fun F H x a d Q s ra e q => by
  unfold anyT at e
  split at e
  · split at e <;> cases e
    rename_i bs h
    obtain ⟨p, vs, rfl, h1, r1⟩ := ra.lst s
    exact ⟨true, p, vs, bs, rfl, .of h1, trs_rep r1 h, q _ F H (Grow.refl s) (Rep.bl _)⟩
  · split at e <;> cases e
    rename_i bs h
    obtain ⟨p, vs, rfl, h1, r1⟩ := ra.tup s
    exact ⟨false, p, vs, bs, rfl, h1, trs_rep r1 h, q _ F H (Grow.refl s) (Rep.bl _)⟩
  · cases e)
theorem b_allT (hc : X.calm = true) (hm : X.mg "all" = none) : BlM X "all" .S (one allT) := BlM.b hm boot_all' (cr_allT hc) (ne_one (fun d e z => by unfold allT at z; split at z <;> (try split at z) <;> cases z)) (cal_one fun F H x a d Q s ra e q => by
  unfold allT at e
  split at e
  · split at e <;> cases e
    rename_i bs h
    obtain ⟨p, vs, rfl, h1, r1⟩ := ra.lst s
    exact ⟨true, p, vs, bs, rfl, .of h1, trs_rep r1 h, q _ F H (Grow.refl s) (Rep.bl _)⟩
  · split at e <;> cases e
    rename_i bs h
    obtain ⟨p, vs, rfl, h1, r1⟩ := ra.tup s
    exact ⟨false, p, vs, bs, rfl, h1, trs_rep r1 h, q _ F H (Grow.refl s) (Rep.bl _)⟩
  · cases e)
end
end Mir
namespace Mir
open PySem PySem.Spec PyProof.Rows L2
variable [Tn]
/-- the list that the i-th name owns, given away -/
def giveG (i : Nat) (r : Env) : Oc := match r[i]? with
  | some (.ow .flat d) => .rt d
  | _ => .bad
theorem rs_retO (i : Nat) {X : Cx} {W : Wi} {x : Str} {pos p2 : Pos} (hN : X.N[i]? = some x := by rfl) (hv : Vis X.env.scope x := by first | exact Or.inl rfl | exact Or.inr (Or.inl rfl) | exact Or.inr (Or.inr rfl)) (hd : (x == ("__debug__" : Str)) = false := by decide)
    (hcd : (x == ("__classdict__" : Str)) = false := by decide) : RS X W (.O .flat) (.Return (some (.Name x pos)) p2) (giveG i) :=
  (ps_ret (pe_var hN hv hd hcd)).imp fun D σ H ⟨H0, F0, fp, F, r, m, o⟩ => by
    unfold giveG at o
    split at o
    · rename_i d h
      obtain ⟨⟨v, h1, h2⟩, h3⟩ := m.ow i _ _ h
      exact ⟨v, h1, o F H v (Same.refl _) m.g0 ⟨fp i, h2, h3⟩⟩
    · exact o.elim
end Mir
namespace Mir
open PySem PySem.Spec PyProof.Rows L2
variable [Tn]
def getK : List D → List D → NestedKey → Option D
  | k :: ks, v :: vs, q => if keyOf k = some q then some v else getK ks vs q
  | _, _, _ => none
def hasK (ks : List D) (q : NestedKey) : Bool := ks.any fun k => decide (keyOf k = some q)
def repK : List D → List D → NestedKey → D → List D
  | k :: ks, v :: vs, q, x => (if keyOf k = some q then x else v) :: repK ks vs q x
  | _, _, _, _ => []
/-- in its place, or at the end -/
def setK (ks vs : List D) (kd : D) (q : NestedKey) (x : D) : List D × List D := if hasK ks q = true then (ks, repK ks vs q x) else (ks ++ [kd], vs ++ [x])
/-- a tuple as a key -/
def keyT (d : D) : Option NestedKey := match d with
  | .tup xs => match keyOf (.tup xs) with
    | some q => if q.depth ≤ 8 then some q else none
    | none => none
  | _ => none
theorem keyT_some {d : D} {q : NestedKey} (h : keyT d = some q) : (∃ xs, d = .tup xs) ∧ keyOf d = some q ∧ q.depth ≤ 8 := by
  unfold keyT at h
  split at h
  · split at h
    · rename_i e
      split at h
      · rename_i hd
        cases h
        exact ⟨⟨_, rfl⟩, e, hd⟩
      · cases h
    · cases h
  · cases h
section
variable {G : GC} {F H : Hp}
abbrev EN := NestedKey × Addr × Value
theorem getK_at {q : NestedKey} : ∀ {xs : List EN} {ws : List V} {ks vs : List D}, Vals ws (xs.map (·.2.2)) → ks.map keyOf = xs.map (fun x => some x.1) → RepAll G F ws vs →
    (getK ks vs q = none ∧ atKey xs q = none) ∨ ∃ d e v, getK ks vs q = some d ∧ atKey xs q = some e ∧ RelV v e.2 ∧ Rep G F v d
  | [], _, ks, _, wv, ke, vr => by
    cases ks with
    | nil => exact .inl ⟨by unfold getK; rfl, rfl⟩
    | cons k ks => cases ke
  | x :: xs, _, ks, _, wv, ke, vr => by
    cases ks with
    | nil => cases ke
    | cons k ks =>
      rw [List.map_cons, List.map_cons, List.cons.injEq] at ke
      cases wv with
      | cons r1 rt =>
        cases vr with
        | cons p1 pt =>
          by_cases h : x.1 = q
          · refine .inr ⟨_, x.2, _, ?_, ?_, r1, p1⟩
            · rw [getK, if_pos (by rw [ke.1, h])]
            · simp [atKey, List.find?_cons, h]
          · have e1 : ∀ v vs', getK (k :: ks) (v :: vs') q = getK ks vs' q := fun v vs' => by rw [getK, if_neg (by rw [ke.1]; intro z; exact h (Option.some.inj z))]
            have e2 : atKey (x :: xs) q = atKey xs q := by simp [atKey, List.find?_cons, h]
            rw [e1, e2]
            exact getK_at rt ke.2 pt
theorem hasK_at {q : NestedKey} : ∀ {xs : List EN} {ks : List D}, ks.map keyOf = xs.map (fun x => some x.1) → hasK ks q = (atKey xs q).isSome
  | [], ks, ke => by
    cases ks with
    | nil => rfl
    | cons k ks => cases ke
  | x :: xs, ks, ke => by
    cases ks with
    | nil => cases ke
    | cons k ks =>
      rw [List.map_cons, List.map_cons, List.cons.injEq] at ke
      have ih := hasK_at (q := q) ke.2
      unfold hasK at ih ⊢
      rw [List.any_cons, ih, ke.1]
      by_cases h : x.1 = q
      · simp [atKey, List.find?_cons, h]
      · have z : ¬ (some x.1 = some q) := fun z => h (Option.some.inj z)
        simp [atKey, List.find?_cons, h, z]
/-- a table in the heap -/
structure DR (G : GC) (F : Hp) (xs : List EN) (ws : List V) (ks vs : List D) : Prop where
  wv : Vals ws (xs.map (·.2.2))
  kr : RepAll G F (xs.map fun x => V.ref x.2.1) ks
  ke : ks.map keyOf = xs.map (fun x => some x.1)
  vr : RepAll G F ws vs
theorem DR.mono {F' : Hp} {xs : List EN} {ws : List V} {ks vs : List D} (h : DR G F xs ws ks vs) (s : Same F F') : DR G F' xs ws ks vs := ⟨h.wv, h.kr.mono s, h.ke, h.vr.mono s⟩
theorem DR.len {xs : List EN} {ws : List V} {ks vs : List D} (h : DR G F xs ws ks vs) : xs.length = ks.length := by have := congrArg List.length h.ke; simpa using this.symm
theorem DR.nil : DR G F [] [] [] [] := ⟨.nil, .nil, rfl, .nil⟩
theorem DR.tail {x : EN} {xs : List EN} {w : V} {ws : List V} {k v : D} {ks vs : List D} (h : DR G F (x :: xs) (w :: ws) (k :: ks) (v :: vs)) : DR G F xs ws ks vs ∧ RelV w x.2.2 ∧ Rep G F (.ref x.2.1) k ∧ keyOf k = some x.1 ∧ Rep G F w v := by
  obtain ⟨h1, h2, h3, h4⟩ := h
  rw [List.map_cons, List.map_cons, List.cons.injEq] at h3
  cases h1 with
  | cons a b =>
    cases h2 with
    | cons c d =>
      cases h4 with
      | cons e f => exact ⟨⟨b, d, h3.2, f⟩, a, c, h3.1, e⟩
theorem DR.cons {x : EN} {xs : List EN} {w : V} {ws : List V} {k v : D} {ks vs : List D} (h : DR G F xs ws ks vs) (a : RelV w x.2.2) (b : Rep G F (.ref x.2.1) k) (c : keyOf k = some x.1) (d : Rep G F w v) : DR G F (x :: xs) (w :: ws) (k :: ks) (v :: vs) :=
  ⟨.cons a h.wv, .cons b h.kr, by rw [List.map_cons, List.map_cons, c, h.ke], .cons d h.vr⟩
theorem DR.shape {xs : List EN} {ws : List V} {ks vs : List D} (h : DR G F xs ws ks vs) : (xs = [] ∧ ws = [] ∧ ks = [] ∧ vs = []) ∨ ∃ x xs' w ws' k ks' v vs', xs = x :: xs' ∧ ws = w :: ws' ∧ ks = k :: ks' ∧ vs = v :: vs' := by
  obtain ⟨h1, h2, h3, h4⟩ := h
  cases xs with
  | nil => cases h1; cases h2; cases h4; exact .inl ⟨rfl, rfl, rfl, rfl⟩
  | cons x xs =>
    cases h1
    cases h2
    cases h4
    exact .inr ⟨_, _, _, _, _, _, _, _, rfl, rfl, rfl, rfl⟩
theorem DR.snoc {x : EN} {w : V} {k v : D} (a : RelV w x.2.2) (b : Rep G F (.ref x.2.1) k) (c : keyOf k = some x.1) (d : Rep G F w v) : ∀ {xs : List EN} {ws : List V} {ks vs : List D}, DR G F xs ws ks vs → DR G F (xs ++ [x]) (ws ++ [w]) (ks ++ [k]) (vs ++ [v])
  | xs, ws, ks, vs, h => by
    rcases h.shape with ⟨rfl, rfl, rfl, rfl⟩ | ⟨x', xs', w', ws', k', ks', v', vs', rfl, rfl, rfl, rfl⟩
    · exact DR.nil.cons a b c d
    · obtain ⟨t, e1, e2, e3, e4⟩ := h.tail
      exact (DR.snoc a b c d t).cons e1 e2 e3 e4
theorem DR.rep {q : NestedKey} {u : Value} {w : V} {d : D} (a : RelV w u) (b : Rep G F w d) : ∀ {xs : List EN} {ws : List V} {ks vs : List D}, DR G F xs ws ks vs → ∃ ws', DR G F (xs.map (putAt q u)) ws' ks (repK ks vs q d)
  | xs, ws, ks, vs, h => by
    rcases h.shape with ⟨rfl, rfl, rfl, rfl⟩ | ⟨x', xs', w', ws', k', ks', v', vs', rfl, rfl, rfl, rfl⟩
    · exact ⟨[], by rw [repK]; exact DR.nil; all_goals simp⟩
    · obtain ⟨t, e1, e2, e3, e4⟩ := h.tail
      obtain ⟨ws2, t2⟩ := DR.rep (q := q) a b t
      rw [repK, List.map_cons]
      by_cases hq : x'.1 = q
      · rw [if_pos (by rw [e3, hq])]
        have e : putAt q u x' = (x'.1, x'.2.1, u) := if_pos hq
        rw [e]
        exact ⟨w :: ws2, t2.cons a e2 e3 b⟩
      · rw [if_neg (by rw [e3]; intro z; exact hq (Option.some.inj z))]
        have e : putAt q u x' = x' := if_neg hq
        rw [e]
        exact ⟨w' :: ws2, t2.cons e1 e2 e3 e4⟩
theorem DR.set {q : NestedKey} {u : Value} {w : V} {b : Addr} {kd d : D} {xs : List EN} {ws : List V} {ks vs : List D} (h : DR G F xs ws ks vs) (a : RelV w u) (rb : Rep G F (.ref b) kd) (hk : keyOf kd = some q) (rw' : Rep G F w d) :
    ∃ ws', DR G F (storedH xs q b u) ws' (setK ks vs kd q d).1 (setK ks vs kd q d).2 := by
  unfold storedH setK
  rw [hasK_at h.ke]
  by_cases e : (atKey xs q).isSome = true
  · rw [if_pos e, if_pos e]
    exact DR.rep a rw' h
  · rw [if_neg e, if_neg e]
    exact ⟨_, DR.snoc (x := (q, b, u)) a rb hk rw' h⟩
theorem RdD.dr {v : V} {ks vs : List D} (s : Same F H) (h : RdD G F H v (.dic ks vs)) : ∃ a o xs ws, v = .ref a ∧ H a = some (.ext (isObj' a o)) ∧ (a == sysModules) = false ∧ DicO G o xs ∧ DR G F xs ws ks vs := by
  obtain ⟨a, o, xs, ws, rfl, h1, h2, h3, h4, h5, h6, h7⟩ := h.dic s
  exact ⟨a, o, xs, ws, rfl, h1, h2, h3, h4, h5, h6, h7⟩
theorem Own.dr {a : Addr} {o : Obj} {xs : List EN} {ws : List V} {ks vs : List D} (e : H a = some (.ext (isObj' a o))) (f : F a = none) (n : (a == sysModules) = false) (d : DicO G o xs) (r : DR G F xs ws ks vs) : Own G F H .flat (.ref a) (.dic ks vs) [a] :=
  .dic rfl e f n d r.wv r.kr r.ke (OwnAll.of_rep r.vr) (by simp)
end
section
variable {X : Cx} {pins : List (Addr × Obj)} {σ : L2.St} {H F : Hp} {s : Shared} {k : Nat}
theorem room8 (hr : Room k X.A) : (nestedKind X.prog X.w).room X.A.in1 := by
  have := hr.un
  show X.A.units + 1 + 8 < cLine
  omega
theorem dr_of (I : L2.Inv X pins σ H s) (sF : Same F H) {p : Addr} {o : Obj} {xs : List EN} {ws : List V} {ks vs : List D} (hp : H p = some (.ext (isObj' p o))) (dd : DicO (gOf X) o xs) (h : DR (gOf X) F xs ws ks vs) : s.heap.DictOfH (nestedKind X.prog X.w) p xs :=
  dic_of I sF hp dd h.kr h.ke
theorem key_is (I : L2.Inv X pins σ H s) (sF : Same F H) {b : Addr} {kd : D} {q : NestedKey} (r : Rep (gOf X) F (.ref b) kd) (h : keyT kd = some q) : (nestedKind X.prog X.w).is s.heap q b :=
  ⟨nested_of I sF r (keyT_some h).2.1 rfl, (keyT_some h).2.2⟩
/-- what stands behind a change -/
theorem dicO_of {p : Addr} {h' : Heap} {xs : List EN} (h : h'.DictOfH (nestedKind X.prog X.w) p xs) (hz : xs.length ≤ sizeLine) : ∃ o, h'.get? p = some o ∧ DicO (gOf X) o xs := by
  obtain ⟨o, es, ep, h1, h2, h3, h4, h5, h6⟩ := h
  exact ⟨o, h1, h2, ⟨es, ep, h3, h4⟩, h6, fun x hx => (h5 x hx).2, hz⟩
theorem ext_ok {p : Addr} {o : Obj} {h' : Heap} {P : Program} {w : World} {H' : Hp} (e : h'.get? p = some o) : ObjOk P w H' h' p (.ext (isObj' p o)) := ⟨e, ⟨o, e⟩, fun _ _ q k => k _ q⟩
theorem dicO_nil {o : Obj} (h : o = { cls := .type "dict", data := .dict #[] }) {G : GC} : DicO G o [] := by
  subst h
  exact ⟨⟨rfl, rfl, rfl⟩, ⟨#[], 0, rfl, rfl⟩, List.nodup_nil, (fun _ z => nomatch z), Nat.zero_le _⟩
theorem re_dic0 {W : Wi} {pos : Pos} : RE X W (.O .flat) (.Dict [] [] pos) (fun _ => .ok (.dic [] [])) := ⟨fun pins s σ H Q I ⟨H0, F0, fp, F, r, m, o⟩ => by
  have hn : (s.heap.objs.size == sysModules) = false := beq_eq_false_iff_ne.mpr (Ne.symm (Nat.ne_of_lt I.big))
  have hf := I.hok.fresh (Nat.le_refl _)
  refine wpAny_Dict_empty ⟨.ref s.heap.objs.size, _, I.laid (a := s.heap.objs.size) (o := .ext (isObj' s.heap.objs.size { cls := .type "dict", data := .dict #[] })) (t' := s.toks) (fun _ _ q => Heap.get?_push_of_some _ q) (Nat.le_refl _) (ext_ok (Heap.get?_push_size _ rfl)), rfl, ?_⟩
  exact o F _ (Grow.own m.sub hf) _ ⟨[_], Own.dr upd_same (m.sub.free hf) hn (dicO_nil rfl) DR.nil, fun a ha => by rw [List.mem_singleton.mp ha]; exact hf⟩⟩
end
def ixD (a i : D) : Res D := match a with
  | .dic ks vs => match keyT i with
    | some q => match getK ks vs q with
      | some d => .ok d
      | none => .bad
    | none => .bad
  | a => ixS a i
def inD (x xs : D) : Res D := match xs with
  | .dic ks _ => match keyT x with
    | some q => .ok (.bl (hasK ks q))
    | none => .bad
  | xs => inS x xs
theorem ne_ixD : NoEr2 ixD := fun a b e z => by
  unfold ixD at z
  split at z
  · split at z
    · split at z <;> cases z
    · cases z
  · exact ne_ix _ _ _ z
theorem ne_inD : NoEr2 inD := fun a b e z => by
  unfold inD at z
  split at z
  · split at z <;> cases z
  · exact ne_in _ _ _ z
section
variable {X : Cx} {W : Wi} {k : Nat} {a b c e : Expr} {fa fb fe : Env → Res D} {pos : Pos}
/-- a dict and a key -/
def rDK (X : Cx) (P : List EN → NestedKey → Hp → Prop) : V → V → Hp → Prop := fun x y H => ∃ (F : Hp) (p b : Addr) (o : Obj) (xs : List EN) (ws : List V) (ks vs : List D) (kd : D) (q : NestedKey), x = .ref p ∧ y = .ref b ∧ Same F H ∧ H p = some (.ext (isObj' p o)) ∧ (p == sysModules) = false ∧
  DicO (gOf X) o xs ∧ DR (gOf X) F xs ws ks vs ∧ Rep (gOf X) F (.ref b) kd ∧ keyT kd = some q ∧ P xs q H
theorem ix_dic (hr : Room k X.A) : IxR X (fun x y H Q => rDK X (fun xs q H => ∃ e v, atKey xs q = some e ∧ RelV v e.2 ∧ Q v H) x y H) := by
  intro value slice pins s σ H x y u1 u2 Q I r1 r2 h hs
  obtain ⟨F, p, b, o, xs, ws, ks, vs, kd, q, rfl, rfl, sF, hp, hn, dd, dr, rk, hk, e, v, he, rv, hq⟩ := h
  cases r1
  cases r2
  exact tail_any (dr_of I sF hp dd dr).typeIs slot_dict_getitem.lookup (wpAny_getItem_heap (room8 hr) (key_is I sF rk hk) (dr_of I sF hp dd dr) he ⟨v, H, I.tok _, rv, hq⟩) hs
theorem op_inDic (hr : Room k X.A) : OpR X (compareOp .In) (fun y x H Q => rDK X (fun xs q H => Q (.bl (atKey xs q).isSome) H) x y H) := by
  intro pins s σ H y x u2 u1 Q I r2 r1 h
  obtain ⟨F, p, b, o, xs, ws, ks, vs, kd, q, rfl, rfl, sF, hp, hn, dd, dr, rk, hk, hq⟩ := h
  cases r1
  cases r2
  exact wpAny_in_heap (room8 hr) (key_is I sF rk hk) hn (dr_of I sF hp dd dr) ⟨.bl _, H, I.tok _, rfl, hq⟩
theorem key_ref {G : GC} {F H : Hp} {y : V} {kd : D} {q : NestedKey} (h : RdD G F H y kd) (hk : keyT kd = some q) : ∃ b, y = .ref b ∧ Rep G F (.ref b) kd := by
  obtain ⟨⟨xs, rfl⟩, _⟩ := keyT_some hk
  have z := h.tupS
  cases z with
  | tup h1 h2 => exact ⟨_, rfl, .tup h1 h2⟩
theorem ixD_ok : OpD (gOf X) (fun x y H Q => rIx X.K x y H Q ∨ rDK X (fun xs q H => ∃ e v, atKey xs q = some e ∧ RelV v e.2 ∧ Q v H) x y H) .R .R .S ixD := fun F H x y a b d Q Ha Hb s ka kb e k => by
  unfold ixD at e
  split at e
  · rename_i ks vs
    split at e
    · rename_i q hq
      split at e <;> cases e
      rename_i hg
      obtain ⟨p, o, xs, ws, rfl, h1, h2, h3, h4⟩ := RdD.dr s (show RdD (gOf X) F H x _ from ka)
      obtain ⟨b', rfl, rb⟩ := key_ref (show RdD (gOf X) F H y _ from kb) hq
      rcases getK_at (q := q) h4.wv h4.ke h4.vr with ⟨z, _⟩ | ⟨d', e', v, z1, z2, z3, z4⟩
      · rw [hg] at z; cases z
      · rw [hg] at z1
        cases z1
        exact .inr ⟨F, p, b', o, xs, ws, ks, vs, _, q, rfl, rfl, s, h1, h2, h3, h4, rb, hq, e', v, z2, z3, k v F H (Grow.refl s) z4⟩
    · cases e
  · exact .inl (ix_ok F H x y _ b d Q Ha Hb s ka kb e k)
theorem re_ix (hr : Room k X.A) (ha : RE X W .R a fa) (hb : RE X W .R b fb) (hs : PlainIx b := by intro _ _; rfl) : RE X W .S (.Subscript a b pos) (fun r => fa r >>= fun x => fb r >>= fun y => ixD x y) := (pe_ix (ix_seq.or (ix_dic hr)) ha hb hs).imp (t_op ixD_ok ne_ixD)
theorem inD_ok : OpD (gOf X) (fun y x H Q => rInD X.K y x H Q ∨ rDK X (fun xs q H => Q (.bl (atKey xs q).isSome) H) x y H) .R .R .S inD := fun F H y x b a d Q Ha Hb s kb ka e k => by
  unfold inD at e
  split at e
  · rename_i ks vs
    split at e <;> cases e
    rename_i q hq
    obtain ⟨p, o, xs, ws, rfl, h1, h2, h3, h4⟩ := RdD.dr s (show RdD (gOf X) F H x _ from ka)
    obtain ⟨b', rfl, rb⟩ := key_ref (show RdD (gOf X) F H y _ from kb) hq
    exact .inr ⟨F, p, b', o, xs, ws, ks, vs, _, q, rfl, rfl, s, h1, h2, h3, h4, rb, hq, by show Q _ H; rw [← hasK_at h4.ke]; exact k _ F H (Grow.refl s) (Rep.bl _)⟩
  · exact .inl (in_ok F H y x b _ d Q Ha Hb s kb ka e k)
theorem c_in (hr : Room k X.A) : Cmp X .In inD := ⟨⟨_, (op_inD (units65 hr)).or (op_inDic hr), inD_ok⟩, ne_inD⟩
end
/-- the thing that the i-th name owns -/
def ownF (i : Nat) (r : Env) : Option D := match r[i]? with
  | some (.ow .flat d) => some d
  | _ => none
theorem ownF_some {i : Nat} {r : Env} {d : D} (h : ownF i r = some d) : r[i]? = some (.ow .flat d) := by
  unfold ownF at h
  split at h
  · rename_i e; cases h; exact e
  · cases h
/-- what stands behind d[i] = v -/
def setD (d i v : D) : Res D := match d with
  | .dic ks vs => match keyT i with
    | some q => if ks.length < lim then .ok (.dic (setK ks vs i q v).1 (setK ks vs i q v).2) else .bad
    | none => .bad
  | .lst ds => match i with
    | .int n => match ixN ds.length n with
      | some j => .ok (.lst (ds.set j v))
      | none => .bad
    | _ => .bad
  | _ => .bad
def setG (i : Nat) (fv fi : Env → Res D) (r : Env) : Oc := lift (fv r) r fun v => match ownF i r with
  | some d => lift (fi r) r fun n => match setD d n v with
    | .ok d' => .nx (r.set i (.ow .flat d'))
    | _ => .bad
  | none => .bad
section
variable {G : GC} {J : L2.St → Prop} {H0 F0 F H : Hp} {fp : Nat → List Addr} {σ : L2.St} {r : Env}
theorem MS.dic (m : MS G J H0 F0 fp F σ H r) {i : Nat} {ks vs : List D} (h : r[i]? = some (.ow .flat (.dic ks vs))) : ∃ a o xs ws, σ[i]? = some (some (.ref a)) ∧ H a = some (.ext (isObj' a o)) ∧ (a == sysModules) = false ∧ DicO G o xs ∧ DR G F xs ws ks vs ∧ fp i = [a] := by
  obtain ⟨⟨v, h1, h2⟩, _⟩ := m.ow i _ _ h
  generalize fp i = A at h2
  cases h2 with
  | dic _ e _ z1 z2 z3 z4 z5 ra na =>
    obtain ⟨rfl, rr⟩ := ra.to_rep
    exact ⟨_, _, _, _, h1, e, z1, z2, ⟨z3, z4, z5, rr⟩, rfl⟩
theorem MS.dicUpd (m : MS G J H0 F0 fp F σ H r) {i : Nat} {d : D} {a : Addr} {o : Obj} {xs : List EN} {ws : List V} {ks vs : List D} (h : r[i]? = some (.ow .flat d)) (hv : σ[i]? = some (some (.ref a))) (hf : fp i = [a]) (hn : (a == sysModules) = false) (dd : DicO G o xs) (dr : DR G F xs ws ks vs) :
    ∃ fp', MS G J H0 F0 fp' F σ (upd H a (.ext (isObj' a o))) (r.set i (.ow .flat (.dic ks vs))) := by
  obtain ⟨⟨v, h1, h2⟩, _⟩ := m.ow i _ _ h
  have fa := (h2.there a (by rw [hf]; simp)).1
  exact m.write (A := [a]) h hv (by rw [hf]; simp) (Own.dr upd_same fa hn dd dr) fun b hb => .inl (by rw [hf]; exact hb)
end
section
variable {X : Cx} {W : Wi} {k : Nat} {kk : Kd} {e iv : Expr} {fe fi : Env → Res D} {pos ps p2 apos cpos : Pos} {x : Str}
def rSetDic (X : Cx) : TSet := fun ov i v H Q => rDK X (fun xs q H => xs.length ≤ lim ∧ ∀ p b o' u, ov = .ref p → i = .ref b → RelV v u → DicO (gOf X) o' (storedH xs q b u) → Q (upd H p (.ext (isObj' p o')))) ov i H
theorem storedH_len (xs : List EN) (q : NestedKey) (b : Addr) (u : Value) : (storedH xs q b u).length ≤ xs.length + 1 := by
  unfold storedH
  split
  · simp
  · simp
theorem set_dic (hr : Room k X.A) : PSet X (rSetDic X) := by
  intro pins s σ H ov i v uo ui u Q I ro ri rv h
  obtain ⟨F, p, b, o, xs, ws, ks, vs, kd, q, rfl, rfl, sF, hp, hn, dd, dr, rk, hk, hl, hq⟩ := h
  cases ro
  cases ri
  refine wpAny_setItem_heap (hsz := dd.sz) (room8 hr) (key_is I sF rk hk) (dr_of I sF hp dd dr) fun h' hm' hs => ?_
  have hz : (storedH xs q b u).length ≤ sizeLine := by
    have h1 := storedH_len xs q b u
    have h2 : lim + 1 ≤ sizeLine := by rw [sizeLine_eq]; decide
    omega
  obtain ⟨o', e1, e2⟩ := dicO_of hm' hz
  exact ⟨_, d_write I (by rw [hp]; exact True.intro) hs ⟨o', e1⟩ (ext_ok e1), hq p b o' u rfl rfl rv e2⟩
theorem PSet.or {t t' : TSet} (h : PSet X t) (h' : PSet X t') : PSet X (fun o i v H Q => t o i v H Q ∨ t' o i v H Q) := by
  intro pins s σ H ov i v uo ui u Q I ro ri rv q
  rcases q with q | q
  · exact h pins s σ H ov i v uo ui u Q I ro ri rv q
  · exact h' pins s σ H ov i v uo ui u Q I ro ri rv q
theorem rs_setItem (i : Nat) (hr : Room k X.A) (he : RE X W .S e fe) (hi : RE X W .R iv fi) (hN : X.N[i]? = some x := by rfl) (hv : Vis X.env.scope x := by first | exact Or.inl rfl | exact Or.inr (Or.inl rfl) | exact Or.inr (Or.inr rfl)) (hd : (x == ("__debug__" : Str)) = false := by decide)
    (hcd : (x == ("__classdict__" : Str)) = false := by decide) (ha : ∀ v, assign (.Subscript (.Name x ps) iv p2) X.env v = (do
      let ov ← holding [v] (eval (.Name x ps) X.env)
      let iv ← holding [v, ov] (eval iv X.env)
      standAt p2
      holding [v, ov, iv] (setItem ov iv v)
      release [v, ov, iv] []) := by intro _; rfl)
    (hs : swapsWithSole [.Subscript (.Name x ps) iv p2] e pos.line X.env = pure false := by rfl) (hw : swappedStores [.Subscript (.Name x ps) iv p2] e X.env = pure none := by rfl) (h1 : (assignEach [.Subscript (.Name x ps) iv p2] X.env).map (·.2) = [assign (.Subscript (.Name x ps) iv p2) X.env] := by rfl) :
    RS X W kk (.Assign [.Subscript (.Name x ps) iv p2] e pos) (setG i fe fi) :=
  (ps_asg he (pg_sub (pe_var hN hv hd hcd) hi (PSet.or set_list (set_dic hr)) ha) hs hw h1).imp fun D σ H ⟨H0, F0, fp, F, r, m, o⟩ => ⟨H0, F0, fp, F, r, m, OutS.lift m o fun F' H' d gr o' v kv => by
    split at o'
    · rename_i dd ho
      have hi := ownF_some ho
      have m' := m.grow gr
      cases dd with
      | lst ds =>
        obtain ⟨a, vs, h1, h2, h3, h4⟩ := m'.lst hi
        refine ⟨.ref a, h1, H0, F0, fp, F', r, m', OutS.lift m' o' fun F2 H2 n g2 o2 u ku => ?_⟩
        cases n with
        | int n =>
          unfold setD at o2
          simp only at o2
          split at o2
          · rename_i z hz
            split at hz
            · rename_i j hj
              cases hz
              obtain ⟨fp', m2⟩ := (m'.grow g2).lstUpd hi h1 h4 ((h3.mono g2.f).set (Mir.Rep.mono g2.f kv) j)
              exact .inl ⟨a, vs, n, j, rfl, RdD.int ku, g2.h.at _ _ h2, by rw [h3.length]; exact hj, o2 fp' F2 σ _ (Same.refl _) m2⟩
            · cases hz
          · exact o2.elim
        | _ => exact o2.elim
      | dic ks vs =>
        obtain ⟨a, ob, xs, ws, h1, h2, h3, h4, h5, h6⟩ := m'.dic hi
        refine ⟨.ref a, h1, H0, F0, fp, F', r, m', OutS.lift m' o' fun F2 H2 n g2 o2 u ku => ?_⟩
        unfold setD at o2
        simp only at o2
        split at o2
        · rename_i z hz
          split at hz
          · rename_i q hq
            split at hz <;> cases hz
            rename_i hl
            obtain ⟨b, rfl, rb⟩ := key_ref (show RdD (gOf X) F2 H2 u _ from ku) hq
            have h5' := h5.mono g2.f
            refine .inr ⟨F2, a, b, ob, xs, ws, ks, vs, n, q, rfl, rfl, g2.sub, g2.h.at _ _ h2, h3, h4, h5', rb, hq, by rw [h5.len]; exact Nat.le_of_lt hl, fun p b' ob' uu ep eb ru dd' => ?_⟩
            cases ep
            cases eb
            obtain ⟨ws', dr'⟩ := h5'.set ru rb (keyT_some hq).2.1 (Mir.Rep.mono g2.f kv)
            obtain ⟨fp', m2⟩ := (m'.grow g2).dicUpd hi h1 h6 h3 dd' dr'
            exact o2 fp' F2 σ _ (Same.refl _) m2
          · cases hz
        · exact o2.elim
      | _ =>
        obtain ⟨⟨v', h1, _⟩, _⟩ := m'.ow i _ _ hi
        refine ⟨v', h1, H0, F0, fp, F', r, m', OutS.lift m' o' fun F2 H2 n g2 o2 u ku => ?_⟩
        exact o2.elim
    · exact o'.elim⟩
end
end Mir
namespace Mir
open PySem PySem.Spec PyProof.Rows L2
variable [Tn]
section
variable {prog : Program} {w : World} {K : Type} [DecidableEq K] {knd : HeapKind prog w K} {A : Around} {E : Value → Shared → Prop} {s : Shared}
def EqT (prog : Program) (w : World) (A : Around) (s : Shared) (y x : Value) (b : Bool) : Prop := ∀ (E : Value → Shared → Prop) (Q : Bool → Shared → Prop), Q b s → wpAny (model prog w) A (eqBool y x) Q E s
inductive HitsH (prog : Program) (w : World) (A : Around) (s : Shared) (ys : List (K × Addr × Value)) : List (K × Addr × Value) → Bool → Prop
  | nil : HitsH prog w A s ys [] true
  | miss {x : K × Addr × Value} {r : List (K × Addr × Value)} : atKey ys x.1 = none → HitsH prog w A s ys (x :: r) false
  | hit {x : K × Addr × Value} {e : Addr × Value} {r : List (K × Addr × Value)} {b : Bool} : atKey ys x.1 = some e → EqT prog w A s x.2.2 e.2 true → HitsH prog w A s ys r b → HitsH prog w A s ys (x :: r) b
  | not {x : K × Addr × Value} {e : Addr × Value} {r : List (K × Addr × Value)} : atKey ys x.1 = some e → EqT prog w A s x.2.2 e.2 false → HitsH prog w A s ys (x :: r) false
theorem atKey_of {xs : List (K × Addr × Value)} (hn : (xs.map (·.1)).Nodup) {j : Nat} {k : K} {p : Addr × Value} (h : xs[j]? = some (k, p)) : atKey xs k = some p := by
  induction xs generalizing j with
  | nil => simp at h
  | cons x xs ih =>
    rw [List.map_cons, List.nodup_cons] at hn
    cases j with
    | zero =>
      simp at h
      subst h
      simp [atKey, List.find?_cons]
    | succ j =>
      have h' : xs[j]? = some (k, p) := by simpa using h
      have ne : x.1 ≠ k := fun e => hn.1 (by rw [e]; exact List.mem_map.mpr ⟨(k, p), List.mem_of_getElem? h', rfl⟩)
      have := ih hn.2 h'
      simpa [atKey, List.find?_cons, ne] using this
theorem atKey_no {xs : List (K × Addr × Value)} {k : K} (h : ∀ (j : Nat) (p : Addr × Value), xs[j]? ≠ some (k, p)) : atKey xs k = none := by
  induction xs with
  | nil => rfl
  | cons x xs ih =>
    have ne : x.1 ≠ k := fun e => h 0 x.2 (by simp [← e])
    have := ih fun j p z => h (j + 1) p (by simpa using z)
    simpa [atKey, List.find?_cons, ne] using this
theorem samePairsH {nm : String} {a b : Addr} {xs ys : List (K × Addr × Value)} {r : Bool} {Q : Bool → Shared → Prop} (hu : knd.room A) (ha : (a == sysModules) = false) (hb : (b == sysModules) = false)
    (da : s.heap.DictOfH knd a xs) (db : s.heap.DictOfH knd b ys) (hits : xs.length = ys.length → HitsH prog w A s ys xs r) (h : Q (xs.length == ys.length && r) s) :
    wpAny (model prog w) A (Builtin.Dict.samePairs nm a b) Q E s := by
  obtain ⟨oa, es, ep, hoa, _, hda, hea, hia, hna⟩ := da
  obtain ⟨ob, fs, eq, hob, _, hdb, heb, hib, hnb⟩ := db
  have hla := size_of_entries hea
  have hlb := size_of_entries heb
  rw [← hla, ← hlb] at h hits
  unfold Builtin.Dict.samePairs Builtin.Dict.showsAll
  rw [if_neg (show ¬ (a == sysModules) = true by rw [ha]; decide), if_neg (show ¬ (b == sysModules) = true by rw [hb]; decide)]
  refine wpAny_bind (wpAny_pure (wpAny_bind (wpAny_pure (wpAny_bind (wpAny_dictEntries hoa hda ?_)))))
  dsimp only
  refine wpAny_bind (wpAny_dictEntries hob hdb ?_)
  by_cases hsz : es.size = fs.size
  case neg =>
    rw [if_pos (by simpa using hsz)]
    rw [beq_eq_false_iff_ne.mpr hsz, Bool.false_and] at h
    exact wpAny_bind (wpAny_rule (wpAny_pure h))
  case pos =>
    have h' : Q r s := by simpa [hsz] using h
    have hh := hits hsz
    rw [if_neg (by rw [hsz]; simp)]
    refine wpAny_bind (wpAny_dictEpoch hoa hda (wpAny_bind ?_))
    rw [Std.Legacy.Range.forIn_eq_forIn_range']; simp only [Std.Legacy.Range.size, Nat.sub_zero, Nat.add_sub_cancel, Nat.div_one]
    refine wpAny_forIn_list _ (fun rest q t => t = s ∧ q = (none, ()) ∧ ∃ i, rest = List.range' i (es.size - i) ∧ i ≤ es.size ∧ HitsH prog w A s ys (xs.drop i) r) _ ?_ ?_ _ _ ⟨rfl, rfl, 0, by simp, Nat.zero_le _, hh⟩
    · rintro j rest q t ⟨rfl, rfl, i, hr, hi, hp⟩
      have hlt : i < es.size := by
        rcases Nat.lt_or_ge i es.size with z | z
        · exact z
        · rw [Nat.sub_eq_zero_of_le z] at hr; simp at hr
      obtain ⟨rfl, hrest⟩ : j = i ∧ rest = List.range' (i + 1) (es.size - (i + 1)) := by
        rw [show es.size - i = (es.size - (i + 1)) + 1 by omega, List.range'_succ] at hr
        injection hr with h1 h2
        exact ⟨h1, h2⟩
      have hlx : j < xs.length := by rw [← hla]; exact hlt
      have hej : es[j]? = some (entryOfKey knd xs[j]) := by rw [entry_at hea j, List.getElem?_eq_getElem hlx]; rfl
      have hmem : xs[j] ∈ xs := List.getElem_mem hlx
      refine wpAny_bind (wpAny_dictEntries hoa hda ?_)
      rw [hej]
      rw [List.drop_eq_getElem_cons hlx] at hp
      generalize hx : xs[j] = x at hp hmem
      show wpAny _ _ (holding [Value.ref x.2.1, x.2.2] _ >>= _) _ _ _
      refine wpAny_bind (wpAny_holding (wpAny_bind (wpAny_dictFind_heap hu (hia x hmem) hob hdb heb hib hnb (fun no => ?_) fun jj p hp' => ?_)))
      · have hn := atKey_no no
        have er : r = false := by
          cases hp with
          | miss => rfl
          | hit z => rw [hn] at z; cases z
          | not z => rfl
        rw [er] at h'
        refine wpAny_pure ?_
        show wpAny _ _ (if (!false) = true then _ else _) _ _ _
        rw [if_pos (by decide)]
        exact wpAny_pure (wpAny_pure h')
      · have hs := atKey_of hnb hp'
        have hf : fs[jj]? = some (entryOfKey knd (x.1, p)) := by rw [entry_at heb jj, hp']; rfl
        refine wpAny_bind (wpAny_dictEntries hob hdb ?_)
        rw [hf]
        cases hp with
        | miss z => rw [hs] at z; cases z
        | not z hq =>
          rw [hs] at z
          cases z
          refine wpAny_holding (hq _ _ ?_)
          show wpAny _ _ (if (!false) = true then _ else _) _ _ _
          rw [if_pos (by decide)]
          exact wpAny_pure (wpAny_pure h')
        | hit z hq ht =>
          rw [hs] at z
          cases z
          refine wpAny_holding (hq _ _ ?_)
          show wpAny _ _ (if (!true) = true then _ else _) _ _ _
          rw [if_neg (by decide)]
          refine wpAny_bind (wpAny_dictEpoch hoa hda ?_)
          rw [if_neg (by simp)]
          exact wpAny_pure ⟨rfl, rfl, j + 1, hrest, hlt, ht⟩
    · rintro q t ⟨rfl, rfl, i, hr, hi, hp⟩
      have hin : i = es.size := by
        rcases Nat.lt_or_ge i es.size with z | z
        · rw [show es.size - i = (es.size - (i + 1)) + 1 by omega, List.range'_succ] at hr; exact nomatch hr
        · exact Nat.le_antisymm hi z
      refine wpAny_pure ?_
      rw [hin, hla, List.drop_length] at hp
      cases hp
      exact h'
theorem cmpH {op : CmpOp} {b : Bool} {a c : Addr} {xs ys : List (K × Addr × Value)} {r : Bool} {Q : Value → Shared → Prop} (ho : (op = .Eq ∧ b = true) ∨ (op = .NotEq ∧ b = false)) (hu : knd.room A.in1) (hv : A.units < cLine) (ha : (a == sysModules) = false) (hc : (c == sysModules) = false)
    (da : s.heap.DictOfH knd a xs) (dc : s.heap.DictOfH knd c ys) (hits : xs.length = ys.length → HitsH prog w A.in1 s ys xs r) (h : Q (.bool (if b = true then (xs.length == ys.length && r) else !(xs.length == ys.length && r))) s) :
    wpAny (model prog w) A (compareOp op (.ref a) (.ref c)) Q E s := by
  rcases ho with ⟨rfl, rfl⟩ | ⟨rfl, rfl⟩
  · refine wpAny_richCompare_same_room (op := .Eq) da.typeIs dc.typeIs PySem.F.slot_dict_eq (wpAny_call_entry PySem.F.slot_dict_eq da.typeIs PySem.F.entry_dict_eq ?_ (PySem.F.args_dict_eq_2 _ _)) hv
    show wpAny _ _ (Builtin.Dict.dictSlotArgs "__eq__" ⟨[.ref a, .ref c], []⟩ >>= _) _ _ s
    unfold Builtin.Dict.dictSlotArgs
    refine wpAny_bind (wpAny_bind (wpAny_notOrdered_dict da.typeIs ?_))
    show wpAny _ _ (pure (Value.ref a, Value.ref c)) _ _ s
    refine wpAny_pure (wpAny_bind (wpAny_isInstance (T := "dict") dc.typeIs PySem.F.sub_dict_dict ?_))
    simp only [Bool.not_true, Bool.false_eq_true, if_false]; refine wpAny_bind (wpAny_pure (wpAny_bind (wpAny_pure (wpAny_bind (samePairsH hu ha hc da dc hits ?_)))))
    exact wpAny_pure ⟨_, rfl, ⟨(fun x => nomatch x), by simpa using h⟩⟩
  · refine wpAny_richCompare_same_room (op := .NotEq) da.typeIs dc.typeIs PySem.F.slot_dict_ne (wpAny_call_entry PySem.F.slot_dict_ne da.typeIs PySem.F.entry_dict_ne ?_ (PySem.F.args_dict_ne_2 _ _)) hv
    show wpAny _ _ (Builtin.Dict.dictSlotArgs "__ne__" ⟨[.ref a, .ref c], []⟩ >>= _) _ _ s
    unfold Builtin.Dict.dictSlotArgs
    refine wpAny_bind (wpAny_bind (wpAny_notOrdered_dict da.typeIs ?_))
    show wpAny _ _ (pure (Value.ref a, Value.ref c)) _ _ s
    refine wpAny_pure (wpAny_bind (wpAny_isInstance (T := "dict") dc.typeIs PySem.F.sub_dict_dict ?_))
    simp only [Bool.not_true, Bool.false_eq_true, if_false]; refine wpAny_bind (wpAny_pure (wpAny_bind (wpAny_pure (wpAny_bind (samePairsH hu ha hc da dc hits ?_)))))
    exact wpAny_pure ⟨_, rfl, ⟨(fun x => nomatch x), by simpa using h⟩⟩
end
/-- whether the values stand in the other table, too -/
def sameK : List D → List D → List D → List D → Option Bool
  | k :: ks, v :: vs, ks2, vs2 => match keyOf k with
    | some q => match getK ks2 vs2 q with
      | none => some false
      | some u => match eqS v u with
        | .ok (.bl true) => sameK ks vs ks2 vs2
        | .ok (.bl false) => some false
        | _ => none
    | none => none
  | _, _, _, _ => some true
def sameD (ks vs ks2 vs2 : List D) : Option Bool := if ks.length = ks2.length then sameK ks vs ks2 vs2 else some false
def eqD (a b : D) : Res D := match a, b with
  | .dic ks vs, .dic ks2 vs2 => match sameD ks vs ks2 vs2 with
    | some b => .ok (.bl b)
    | none => .bad
  | a, b => eqS a b
def neD (a b : D) : Res D := match a, b with
  | .dic ks vs, .dic ks2 vs2 => match sameD ks vs ks2 vs2 with
    | some b => .ok (.bl (!b))
    | none => .bad
  | a, b => neS a b
theorem ne_eqD : NoEr2 eqD := fun a b e z => by
  unfold eqD at z
  split at z
  · split at z <;> cases z
  · exact ne_eq _ _ _ z
theorem ne_neD : NoEr2 neD := fun a b e z => by
  unfold neD at z
  split at z
  · split at z <;> cases z
  · exact ne_ne _ _ _ z
section
variable {X : Cx} {pins : List (Addr × Obj)} {σ : L2.St} {H F : Hp} {s : Shared} {k : Nat}
theorem eqT_of (I : L2.Inv X pins σ H s) (sF : Same F H) (hr : X.A.units + 65 < cLine) {v u : V} {x y : Value} {d e : D} {b : Bool} (h : eqS d e = .ok (.bl b)) (rv : Rep (gOf X) F v d) (ru : Rep (gOf X) F u e) (hx : RelV v x) (hy : RelV u y) : EqT X.prog X.w X.A.in1 s x y b := by
  unfold eqS at h
  split at h
  · rename_i p q h1 h2
    split at h
    · rename_i hs
      injection h with h
      injection h with h
      subst h
      obtain ⟨as, r1⟩ := Dp.reads I p v x (rv.dp sF h1) hx
      obtain ⟨bs, r2⟩ := Dp.reads I q u y (ru.dp sF h2) hy
      have z := PySem.W.keq_at (A := X.A) r1 r2 hs.1 hs.2 (show X.A.units + 1 + 64 < cLine by omega)
      exact fun E Q hq => z X.prog X.w E Q hq
    · cases h
  · cases h
theorem hits_of (I : L2.Inv X pins σ H s) (sF : Same F H) (hr : X.A.units + 65 < cLine) {ys : List EN} {us : List V} {ks2 vs2 : List D} (h2 : DR (gOf X) F ys us ks2 vs2) : ∀ {xs : List EN} {ws : List V} {ks vs : List D} {b : Bool}, DR (gOf X) F xs ws ks vs → sameK ks vs ks2 vs2 = some b → HitsH X.prog X.w X.A.in1 s ys xs b
  | xs, ws, ks, vs, b, h, e => by
    rcases h.shape with ⟨rfl, rfl, rfl, rfl⟩ | ⟨x, xs', w, ws', k, ks', v, vs', rfl, rfl, rfl, rfl⟩
    · simp [sameK] at e
      subst e
      exact .nil
    · obtain ⟨t, e1, e2, e3, e4⟩ := h.tail
      rw [sameK, e3] at e
      simp only at e
      rcases getK_at (q := x.1) h2.wv h2.ke h2.vr with ⟨z1, z2⟩ | ⟨d, en, u, z1, z2, z3, z4⟩
      · rw [z1] at e
        cases e
        exact .miss z2
      · rw [z1] at e
        simp only at e
        split at e
        · rename_i he
          exact .hit z2 (eqT_of I sF hr he e4 z4 e1 z3) (hits_of I sF hr h2 t e)
        · rename_i he
          cases e
          exact .not z2 (eqT_of I sF hr he e4 z4 e1 z3)
        · cases e
def rDD (X : Cx) (P : Bool → Hp → Prop) : V → V → Hp → Prop := fun x y H => ∃ (F : Hp) (p p2 : Addr) (o o2 : Obj) (xs ys : List EN) (ws us : List V) (ks vs ks2 vs2 : List D) (b : Bool), x = .ref p ∧ y = .ref p2 ∧ Same F H ∧ H p = some (.ext (isObj' p o)) ∧ (p == sysModules) = false ∧
  DicO (gOf X) o xs ∧ DR (gOf X) F xs ws ks vs ∧ H p2 = some (.ext (isObj' p2 o2)) ∧ (p2 == sysModules) = false ∧ DicO (gOf X) o2 ys ∧ DR (gOf X) F ys us ks2 vs2 ∧ sameD ks vs ks2 vs2 = some b ∧ P b H
theorem op_cmpH (hr : Room k X.A) {op : CmpOp} {c : Bool} (ho : (op = .Eq ∧ c = true) ∨ (op = .NotEq ∧ c = false)) : OpR X (compareOp op) (fun x y H Q => rDD X (fun b H => Q (.bl (if c = true then b else !b)) H) x y H) := by
  intro pins s σ H x y u1 u2 Q I r1 r2 h
  obtain ⟨F, p, p2, o, o2, xs, ys, ws, us, ks, vs, ks2, vs2, b, rfl, rfl, sF, hp, hn, dd, dr, hp2, hn2, dd2, dr2, hb, hq⟩ := h
  cases r1
  cases r2
  have hu := hr.un
  unfold sameD at hb
  rw [← dr.len, ← dr2.len] at hb
  split at hb
  · rename_i hl
    refine cmpH ho (room8 hr) (by omega) hn hn2 (dr_of I sF hp dd dr) (dr_of I sF hp2 dd2 dr2) (fun _ => hits_of I sF (by omega) dr2 dr hb) ⟨.bl (if c = true then b else !b), H, I, ?_, hq⟩
    rw [hl, beq_self_eq_true, Bool.true_and] <;> rfl
  · rename_i hl
    cases hb
    refine cmpH (r := true) ho (room8 hr) (by omega) hn hn2 (dr_of I sF hp dd dr) (dr_of I sF hp2 dd2 dr2) (fun z => (hl z).elim) ⟨.bl (if c = true then false else !false), H, I, ?_, hq⟩
    rw [beq_eq_false_iff_ne.mpr hl, Bool.false_and] <;> rfl
theorem eqD_ok' : OpD (gOf X) (fun x y H Q => rEqD X.K x y H Q ∨ rDD X (fun b H => Q (.bl (if true = true then b else !b)) H) x y H) .R .R .S eqD := fun F H x y a b d Q Ha Hb s ka kb e k => by
  unfold eqD at e
  split at e
  · split at e <;> cases e
    rename_i hb
    obtain ⟨p, o, xs, ws, rfl, h1, h2, h3, h4⟩ := RdD.dr s (show RdD (gOf X) F H x _ from ka)
    obtain ⟨p', o', xs', ws', rfl, h1', h2', h3', h4'⟩ := RdD.dr s (show RdD (gOf X) F H y _ from kb)
    exact .inr ⟨F, p, p', o, o', xs, xs', ws, ws', _, _, _, _, _, rfl, rfl, s, h1, h2, h3, h4, h1', h2', h3', h4', hb, k _ F H (Grow.refl s) (Rep.bl _)⟩
  · exact .inl (eq_ok F H x y _ _ d Q Ha Hb s ka kb e k)
theorem neD_ok' : OpD (gOf X) (fun x y H Q => rNeD X.K x y H Q ∨ rDD X (fun b H => Q (.bl (if false = true then b else !b)) H) x y H) .R .R .S neD := fun F H x y a b d Q Ha Hb s ka kb e k => by
  unfold neD at e
  split at e
  · split at e <;> cases e
    rename_i hb
    obtain ⟨p, o, xs, ws, rfl, h1, h2, h3, h4⟩ := RdD.dr s (show RdD (gOf X) F H x _ from ka)
    obtain ⟨p', o', xs', ws', rfl, h1', h2', h3', h4'⟩ := RdD.dr s (show RdD (gOf X) F H y _ from kb)
    exact .inr ⟨F, p, p', o, o', xs, xs', ws, ws', _, _, _, _, _, rfl, rfl, s, h1, h2, h3, h4, h1', h2', h3', h4', hb, k _ F H (Grow.refl s) (Rep.bl _)⟩
  · exact .inl (ne_ok F H x y _ _ d Q Ha Hb s ka kb e k)
theorem c_eq (hr : Room k X.A) : Cmp X .Eq eqD := ⟨⟨_, (op_eqD hr.units).or (op_cmpH hr (.inl ⟨rfl, rfl⟩)), eqD_ok'⟩, ne_eqD⟩
theorem c_ne (hr : Room k X.A) : Cmp X .NotEq neD := ⟨⟨_, (op_neD hr.units).or (op_cmpH hr (.inr ⟨rfl, rfl⟩)), neD_ok'⟩, ne_neD⟩
end
mutual
/-- a key's hash, where no text is in it -/
def nh : NestedKey → Option Int
  | .none => some (reduceHash 0xFCA86420)
  | .num i => some (hashInt i)
  | .text _ => none
  | .tup ks => match nhs ks with
    | some hs => some (reduceHash (Builtin.Tuple.tupleHashOf hs))
    | none => none
def nhs : List NestedKey → Option (List Int)
  | [] => some []
  | k :: ks => match nh k, nhs ks with
    | some h, some hs => some (h :: hs)
    | _, _ => none
end
/-- the keys in their order -/
def Itdk (d : Addr) (o : Obj) (xs : List EN) : It := ⟨fun i H => H d = some (.ext (isObj' d o)) ∧ i < xs.length, fun i H x H' => H' = H ∧ ∃ e, xs[i]? = some e ∧ x = .ref e.2.1, fun i H => H d = some (.ext (isObj' d o)) ∧ xs.length ≤ i⟩
def Itdv (d : Addr) (o : Obj) (ws : List V) : It := ⟨fun i H => H d = some (.ext (isObj' d o)) ∧ i < ws.length, fun i H x H' => H' = H ∧ ws[i]? = some x, fun i H => H d = some (.ext (isObj' d o)) ∧ ws.length ≤ i⟩
theorem ent_at {K : Type} [DecidableEq K] {P : Program} {w : World} {knd : HeapKind P w K} {es : Array DictEntry} {xs : List (K × Addr × Value)} (he : es.toList = xs.map (entryOfKey knd)) {i : Nat} (hi : i < es.size) : ∃ e, xs[i]? = some e ∧ es[i].key = .ref e.2.1 ∧ es[i].val = e.2.2 := by
  have h1 := entry_at he i
  rw [Array.getElem?_eq_getElem hi] at h1
  cases hx : xs[i]? with
  | none => rw [hx] at h1; cases h1
  | some e =>
    rw [hx] at h1
    have h2 : es[i] = entryOfKey knd e := Option.some.inj h1
    exact ⟨e, rfl, by rw [h2]; rfl, by rw [h2]; rfl⟩
section
variable {P : Program} {w : World} {K : PySem.W.Frag} {tg : Expr} {d : Addr} {o : Obj} {es : Array DictEntry} {ep : Nat} {xs : List EN} {ws : List V}
theorem ext_raw {X : Cx} {pins : List (Addr × Obj)} {σ : L2.St} {H : Hp} {s : Shared} (I : L2.Inv X pins σ H s) (h : H d = some (.ext (isObj' d o))) (hx : o.ExactDict) (hd : o.data = .dict es ep) : s.heap.DictRaw d es ep := by
  obtain ⟨e, _⟩ := (show ObjOk X.prog X.w H s.heap d (.ext (isObj' d o)) from I.hok d _ h)
  exact ⟨o, e, hx, hd⟩
theorem turn_dk (it : Addr) (hx : o.ExactDict) (hod : o.data = .dict es ep) (he : es.toList = xs.map (entryOfKey (nestedKind P w))) : Turn P w K tg (Itdk d o xs) [it] it (fun i h => h.IsKeyIter it d i es.size ep) where
  mem := by simp
  obj := fun i h st b hb => by
    have e : b = it := by simpa using hb
    subst e
    obtain ⟨oi, e, c, dd⟩ := st
    exact ⟨oi, e, fun v z => by rw [dd] at z; cases z⟩
  keep := fun i h h' st k => st.at fun oi e => k it (by simp) oi e
  item := by
    intro X hP hw hK hc i pins s σ H E I hf st ⟨hd, hi⟩
    subst hP hw hK
    obtain ⟨f0, f1, f2, f3, f4, f5⟩ := hf it (by simp)
    have hsz := size_of_entries he
    have hi' : i < es.size := by rw [hsz]; exact hi
    obtain ⟨e, e1, e2, _⟩ := ent_at he hi'
    refine wpAny_pyNext_keys_item_raw st (ext_raw I hd hx hod) hi' fun h' st' sb => ?_
    have I1 : Inv X pins σ H { s with heap := h' } := I.turned (t' := s.toks) (fun b ob hb q => (sb.2 b hb).trans q) f0 f1 f3 f4 f5
    obtain ⟨oi, q, c, dd⟩ := id st'
    exact ⟨es[i].key, rfl, go_of (s := { s with heap := h' }) q c dd (by decide) ⟨.ref e.2.1, H, I1, e2, ⟨rfl, e, e1, rfl⟩, st', fun b hb => (hf b hb).1⟩⟩
  done := by
    intro X hP hw hK hc i pins s σ H E I hf st ⟨hd, hi⟩
    subst hP hw hK
    obtain ⟨f0, f1, f2, f3, f4, f5⟩ := hf it (by simp)
    have hsz := size_of_entries he
    exact wpAny_pyNext_keys_end_raw (I.ok.hd hc) st (ext_raw I hd hx hod) (by rw [hsz]; exact hi) fun h' eb => ⟨rfl, I.turned (t' := s.toks) (fun b ob hb e => eb b ob hb e) f0 f1 f3 f4 f5⟩
  self := fun A i s Q E st h => wpAny_pyIter_keyiter st h
end
/-- the dict is there -/
def iDk (X : Cx) (J : Addr → Obj → List EN → List V → It) (td : TE) : TI := fun σ H R => td σ H fun x H1 => ∃ (F : Hp) (d : Addr) (o : Obj) (xs : List EN) (ws : List V) (ks vs : List D), x = .ref d ∧ Same F H1 ∧ H1 d = some (.ext (isObj' d o)) ∧ (d == sysModules) = false ∧ DicO (gOf X) o xs ∧ DR (gOf X) F xs ws ks vs ∧ R (J d o xs ws) H1
section
variable {X : Cx} {W : Wi} {tg e : Expr} {td : TE} {fe : Env → Res D} {apos cpos : Pos}
theorem pi_dk (he : PE X e td) : PI X tg e (iDk X (fun d o xs _ => Itdk d o xs) td) := by
  refine ⟨fun pins s σ H R I h => thn (he.run pins s σ H _ I h) fun u s1 ⟨x, H1, I1, rx, F', d, o, xs, ws, ks, vs, ex, sF, hd, hn, dd, dr, q⟩ => ?_⟩
  subst ex
  obtain rfl : u = Value.ref d := rx
  obtain ⟨es, ep, h1, h2⟩ := dd.dat
  refine wpAny_pyIter_dict_raw hn (ext_raw I1 hd dd.ex h1) (pi_one (tk := s1.toks) I1 _ (turn_dk _ dd.ex h1 h2) ⟨_, Heap.get?_push_size _ rfl, rfl, rfl⟩ q)
theorem WalkD.dk {G : GC} {F F1 B : Hp} {d : Addr} {o : Obj} {xs : List EN} {ws : List V} {ks vs : List D} (h : B d = some (.ext (isObj' d o))) (dr : DR G F xs ws ks vs) : WalkD G F B (Itdk d o xs) ks := ⟨fun i H hi s => ⟨s _ _ h, by rw [dr.len]; exact hi⟩, fun H s => ⟨s _ _ h, by rw [dr.len]; exact Nat.le_refl _⟩, fun i F2 H2 x H3 hi s1 s2 s3 y => by
  obtain ⟨rfl, e, he, rfl⟩ := y
  obtain ⟨kd, h1, h2⟩ := dr.kr.getV (i := i) (v := .ref e.2.1) (by rw [List.getElem?_map, he]; rfl)
  exact ⟨F2, kd, Grow.refl s2, h1, h2.mono s1⟩⟩
theorem WalkD.dv {G : GC} {F B : Hp} {d : Addr} {o : Obj} {xs : List EN} {ws : List V} {ks vs : List D} (h : B d = some (.ext (isObj' d o))) (dr : DR G F xs ws ks vs) : WalkD G F B (Itdv d o ws) vs := ⟨fun i H hi s => ⟨s _ _ h, by rw [dr.vr.length]; exact hi⟩, fun H s => ⟨s _ _ h, by rw [dr.vr.length]; exact Nat.le_refl _⟩, fun i F2 H2 x H3 hi s1 s2 s3 y => by
  obtain ⟨rfl, hw⟩ := y
  obtain ⟨vd, h1, h2⟩ := dr.vr.getV hw
  exact ⟨F2, vd, Grow.refl s2, h1, h2.mono s1⟩⟩
/-- the pairs of a table -/
def pairsK (ks vs : List D) : List D := (ks.zip vs).map fun p => .tup [p.1, p.2]
def itemsD (d : D) : Res (List D) := match d with
  | .dic ks _ => .ok ks
  | d => itemsS d
@[simp] theorem itemsD_lst (xs : List D) : itemsD (.lst xs) = .ok xs := rfl
@[simp] theorem itemsD_tup (xs : List D) : itemsD (.tup xs) = .ok xs := rfl
@[simp] theorem itemsD_scr (xs : List Int) : itemsD (.scr xs) = .ok (xs.map D.int) := rfl
@[simp] theorem itemsD_str (z : Str) : itemsD (.str z) = .ok (signsOf z) := rfl
@[simp] theorem itemsD_dic (ks vs : List D) : itemsD (.dic ks vs) = .ok ks := rfl
theorem re_iter (he : RE X W .S e fe) : RI X W true tg e (fun r => fe r >>= itemsD) := by
  refine ⟨fun pins s σ H R I ⟨H0, F0, fp, F, r, m, o⟩ => ?_⟩
  have o : Out (gOf X) W σ F H _ (fe r >>= itemsD) := o
  cases ef : fe r with
  | er x => exact (re_iterS he).run pins s σ H R I ⟨H0, F0, fp, F, r, m, by show Out _ _ _ _ _ _ (fe r >>= itemsS); rw [ef] at o ⊢; exact o⟩
  | bad => rw [ef] at o; exact o.elim
  | ok d =>
    rw [ef] at o
    have o0 : itemsD d = itemsS d → Out (gOf X) W σ F H _ (fe r >>= itemsS) := fun z => by
      rw [ef]
      have o1 : Out (gOf X) W σ F H _ (itemsD d) := o
      rw [z] at o1
      exact o1
    cases d with
    | dic ks vs => exact (pi_dk he).run pins s σ H R I ⟨H0, F0, fp, F, r, m, by
        rw [ef]
        intro F' H' gr v kv
        have kv' : Rep (gOf X) F' v (.dic ks vs) := kv
        cases kv' with
        | dic h1 z1 z2 z3 z4 z5 z6 => exact ⟨F', _, _, _, _, ks, vs, rfl, gr.sub, gr.sub _ _ h1, z1, z2, ⟨z3, z4, z5, z6⟩, o F' H' gr _ (WalkD.dk (F1 := F') h1 ⟨z3, z4, z5, z6⟩)⟩⟩
    | _ => exact (re_iterS he).run pins s σ H R I ⟨H0, F0, fp, F, r, m, o0 rfl⟩
theorem re_iterR (he : RE X W .R e fe) : RI X W false tg e (fun r => fe r >>= itemsD) := by
  refine ⟨fun pins s σ H R I ⟨H0, F0, fp, F, r, m, o⟩ => ?_⟩
  have o : Out (gOf X) W σ F H _ (fe r >>= itemsD) := o
  cases ef : fe r with
  | er x => exact (re_iterRS he).run pins s σ H R I ⟨H0, F0, fp, F, r, m, by show Out _ _ _ _ _ _ (fe r >>= itemsS); rw [ef] at o ⊢; exact o⟩
  | bad => rw [ef] at o; exact o.elim
  | ok d =>
    rw [ef] at o
    have o0 : itemsD d = itemsS d → Out (gOf X) W σ F H _ (fe r >>= itemsS) := fun z => by
      rw [ef]
      have o1 : Out (gOf X) W σ F H _ (itemsD d) := o
      rw [z] at o1
      exact o1
    cases d with
    | dic ks vs => exact (pi_dk he).run pins s σ H R I ⟨H0, F0, fp, F, r, m, by
        rw [ef]
        intro F' H' gr v kv
        obtain ⟨p, ob, xs, ws, rfl, h1, h2, h3, h4⟩ := RdD.dr gr.sub (show RdD (gOf X) F' H' v _ from kv)
        exact ⟨F', _, _, _, _, ks, vs, rfl, gr.sub, h1, h2, h3, h4, o F' H' gr _ (WalkD.dk (F1 := F') (nT_at h1) h4)⟩⟩
    | _ => exact (re_iterRS he).run pins s σ H R I ⟨H0, F0, fp, F, r, m, o0 rfl⟩
def valsD (d : D) : Res (List D) := match d with
  | .dic _ vs => .ok vs
  | _ => .bad
def pairsD (d : D) : Res (List D) := match d with
  | .dic ks vs => .ok (pairsK ks vs)
  | _ => .bad
@[simp] theorem valsD_dic (ks vs : List D) : valsD (.dic ks vs) = .ok vs := rfl
@[simp] theorem pairsD_dic (ks vs : List D) : pairsD (.dic ks vs) = .ok (pairsK ks vs) := rfl
end
end Mir
namespace Mir
open PySem PySem.Spec PyProof.Rows L2
variable [Tn]
section
variable {X : Cx} {W : Wi} {k : Kd} {m : Nat} {e : Expr} {fe : Env → Res D} {pos apos cpos ps : Pos} {x : Str}
/-- a dict and what is done to it -/
def rDU (X : Cx) (P : List EN → List V → List D → List D → Hp → Addr → Hp → Prop) : V → Hp → Prop := fun x H => ∃ (F : Hp) (p : Addr) (o : Obj) (xs : List EN) (ws : List V) (ks vs : List D), x = .ref p ∧ Same F H ∧ H p = some (.ext (isObj' p o)) ∧ (p == sysModules) = false ∧ DicO (gOf X) o xs ∧ DR (gOf X) F xs ws ks vs ∧ P xs ws ks vs F p H
end
section
variable {G : GC} {F H : Hp}
theorem OwnAll.setAt {f : Nat → Shape} {d' : D} : ∀ {n0 : Nat} {ws : List V} {vs : List D} {A : List Addr}, OwnAll G F H f n0 ws vs A → ∀ (n : Nat) {d : D}, vs[n]? = some d → ∃ w B, ws[n]? = some w ∧ Own G F H (f (n0 + n)) w d B ∧ (∀ b ∈ B, b ∈ A) ∧
      ∀ a o, a ∈ B → Own G F (upd H a o) (f (n0 + n)) w d' B → OwnAll G F (upd H a o) f n0 ws (vs.set n d') A
  | _, _, _, _, .nil, n, d, h => by simp at h
  | n0, _, _, _, .cons (A := A) (B := B) r t x, 0, d, h => by
    simp at h
    subst h
    exact ⟨_, A, rfl, r, fun b hb => List.mem_append_left _ hb, fun a o ha r' => .cons r' (t.keep (Keep.upd (x a ha))) x⟩
  | n0, _, _, _, .cons (A := A) (B := B) r t x, n + 1, d, h => by
    obtain ⟨w, C, h1, h2, h3, h4⟩ := OwnAll.setAt t n (d := d) (by simpa using h)
    rw [show n0 + 1 + n = n0 + (n + 1) by omega] at h2 h4
    refine ⟨w, C, by simpa using h1, h2, fun b hb => List.mem_append_right _ (h3 b hb), fun a o ha r' => ?_⟩
    rw [List.set_cons_succ]
    exact .cons (r.keep (Keep.upd fun z => x a z (h3 a ha))) (h4 a o ha r') x
end
def Shape.isFlat : Shape → Bool
  | .flat => true
  | _ => false
theorem Shape.flat_of {s : Shape} (h : s.isFlat = true) : s = .flat := by cases s <;> first | rfl | cases h
end Mir
namespace Mir
open PySem PySem.Spec PyProof.Rows L2
variable [Tn]
theorem okQ_dic {n : Nat} {ks vs : List D} : okQ n (.dic ks vs) = false := by cases n <;> rfl
theorem eqD_S {a b : D} (h : ∀ ks vs, a ≠ .dic ks vs) : eqD a b = eqS a b := by
  unfold eqD
  split
  · exact absurd rfl (h _ _)
  · rfl
theorem neD_S {a b : D} (h : ∀ ks vs, a ≠ .dic ks vs) : neD a b = neS a b := by
  unfold neD
  split
  · exact absurd rfl (h _ _)
  · rfl
theorem eqD_ok {a b : D} (ha : okQ 64 a = true) (hb : okQ 64 b = true) : eqD a b = .ok (.bl (eqQ a b)) := by
  rw [eqD_S (fun ks vs e => by subst e; rw [okQ_dic] at ha; cases ha)]
  exact eqS_ok ha hb
theorem neD_ok {a b : D} (ha : okQ 64 a = true) (hb : okQ 64 b = true) : neD a b = .ok (.bl (!eqQ a b)) := by
  rw [neD_S (fun ks vs e => by subst e; rw [okQ_dic] at ha; cases ha)]
  exact neS_ok ha hb
@[simp] theorem eqD_int (i j : Int) : eqD (.int i) (.int j) = .ok (.bl (decide (i = j))) := eqS_int i j
@[simp] theorem neD_int (i j : Int) : neD (.int i) (.int j) = .ok (.bl (!decide (i = j))) := neS_int i j
@[simp] theorem ixD_lst (xs : List D) (i : Int) : ixD (.lst xs) (.int i) = match atI xs i with
    | some d => .ok d
    | none => .bad := rfl
@[simp] theorem ixD_tup (xs : List D) (i : Int) : ixD (.tup xs) (.int i) = match atI xs i with
    | some d => .ok d
    | none => .bad := rfl
@[simp] theorem ixD_scr (ns : List Int) (i : Int) : ixD (.scr ns) (.int i) = match atI ns i with
    | some n => .ok (.int n)
    | none => .bad := rfl
theorem atI_nat {α : Type} (xs : List α) (i : Nat) (h : i < xs.length) : atI xs (i : Int) = xs[i]? := by
  unfold atI ixN
  rw [if_pos (Int.natCast_nonneg i), if_pos (by omega)]
  rfl
theorem atI_int {α : Type} (xs : List α) (i : Int) (h0 : 0 ≤ i) (h : i < xs.length) : atI xs i = xs[i.toNat]? := by
  have e : i = ((i.toNat : Nat) : Int) := by omega
  rw [e, atI_nat xs i.toNat (by omega)]
  rfl
theorem atI_getD {ns : List Int} {i : Int} (h0 : 0 ≤ i) (h1 : i < ns.length) : atI ns i = some (ns.getD i.toNat 0) := by
  rw [atI_int ns i h0 h1, List.getD_eq_getElem?_getD, List.getElem?_eq_getElem (by omega)]
  rfl
@[simp] theorem bits0 : bits 0 = 0 := rfl
theorem bits_lt {i : Int} {n : Nat} (hn : 0 < n) (h : i.natAbs < 2 ^ n) : bits i < n := by
  unfold bits
  by_cases h0 : i.natAbs = 0
  · rw [h0]; simpa using hn
  · exact (Nat.log2_lt h0).mpr h
theorem zipL3_ints (xs ys zs : List Int) : zipL3 (xs.map D.int) (ys.map D.int) (zs.map D.int) = (xs.zip (ys.zip zs)).map fun p => .tup [.int p.1, .int p.2.1, .int p.2.2] := by
  unfold zipL3
  rw [List.zip_map, List.zip_map, List.map_map]
  rfl
theorem lcD_gmap {α : Type} {g : D → Env → Res Env} {t : Env → Res Bool} {f : Env → Res D} {r : Env} (A : α → D) (F : α → D) : ∀ {xs : List α}, (∀ a ∈ xs, ∃ r1, g (A a) r = .ok r1 ∧ t r1 = .ok true ∧ f r1 = .ok (F a)) → lcD g t f r (xs.map A) = .ok (xs.map F)
  | [], _ => rfl
  | a :: xs, h => by
    obtain ⟨r1, h1, h2, h3⟩ := h a List.mem_cons_self
    rw [List.map_cons, lcD, h1]
    simp only [nE_ok, ok_bind, h2, if_true, h3, lcD_gmap A F fun d hd => h d (List.mem_cons_of_mem _ hd)]
    rfl
theorem lcD_zip3 {t : Env → Res Bool} {f : Env → Res D} {r : Env} {i j k : Nat} {xs ys zs : List Int} (F : Int × Int × Int → D) (h : ∀ p ∈ xs.zip (ys.zip zs), t (((r.set i (.sh (.int p.1))).set j (.sh (.int p.2.1))).set k (.sh (.int p.2.2))) = .ok true ∧ f (((r.set i (.sh (.int p.1))).set j (.sh (.int p.2.1))).set k (.sh (.int p.2.2))) = .ok (F p)) :
    lcD (tupG 3 (consG (nameG i) (consG (nameG j) (consG (nameG k) nilG)))) t f r (zipL3 (xs.map D.int) (ys.map D.int) (zs.map D.int)) = .ok ((xs.zip (ys.zip zs)).map F) := by
  rw [zipL3_ints]
  exact lcD_gmap (fun p : Int × Int × Int => .tup [.int p.1, .int p.2.1, .int p.2.2]) F fun p hp => ⟨_, rfl, h p hp⟩
/-- one name, over anything -/
theorem lcD_one {α : Type} {t : Env → Res Bool} {f : Env → Res D} {r : Env} {i : Nat} (A : α → D) (F : α → D) {xs : List α} (h : ∀ a ∈ xs, t (r.set i (.sh (A a))) = .ok true ∧ f (r.set i (.sh (A a))) = .ok (F a)) : lcD (nameG i) t f r (xs.map A) = .ok (xs.map F) :=
  lcD_gmap A F fun a ha => ⟨_, rfl, h a ha⟩
theorem lcD_ints {t : Env → Res Bool} {f : Env → Res D} {r : Env} {i : Nat} (F : Int → D) {xs : List Int} (h : ∀ a ∈ xs, t (r.set i (.sh (.int a))) = .ok true ∧ f (r.set i (.sh (.int a))) = .ok (F a)) : lcD (nameG i) t f r (xs.map D.int) = .ok (xs.map F) := lcD_one D.int F h
theorem rangeL_nat (n : Nat) : rangeL 0 n = (List.range n).map fun i : Nat => D.int i := by
  unfold rangeL
  exact List.map_congr_left fun i _ => by rw [Int.zero_add]
theorem lcD_range {t : Env → Res Bool} {f : Env → Res D} {r : Env} {i : Nat} (F : Nat → D) {n : Nat} (h : ∀ k, k < n → t (r.set i (.sh (.int (k : Nat)))) = .ok true ∧ f (r.set i (.sh (.int (k : Nat)))) = .ok (F k)) : lcD (nameG i) t f r (rangeL 0 n) = .ok ((List.range n).map F) := by
  rw [rangeL_nat]
  exact lcD_one (fun k : Nat => D.int k) F fun k hk => h k (List.mem_range.mp hk)
@[simp] theorem atI0 {α : Type} (a : α) (xs : List α) : atI (a :: xs) 0 = some a := by
  rw [show (0 : Int) = ((0 : Nat) : Int) from rfl, atI_nat _ _ (by simp)]
  rfl
@[simp] theorem atI1 {α : Type} (a b : α) (xs : List α) : atI (a :: b :: xs) 1 = some b := by
  rw [show (1 : Int) = ((1 : Nat) : Int) from rfl, atI_nat _ _ (by simp)]
  rfl
@[simp] theorem atI2 {α : Type} (a b c : α) (xs : List α) : atI (a :: b :: c :: xs) 2 = some c := by
  rw [show (2 : Int) = ((2 : Nat) : Int) from rfl, atI_nat _ _ (by simp)]
  rfl
@[simp] theorem addD_tup (xs ys : List D) : addD (.tup xs) (.tup ys) = if xs.length + ys.length ≤ lim then .ok (.tup (xs ++ ys)) else .bad := rfl
@[simp] theorem addD_lst (xs ys : List D) : addD (.lst xs) (.lst ys) = if xs.length + ys.length ≤ lim then .ok (.lst (xs ++ ys)) else .bad := rfl
@[simp] theorem sliceD_tup (xs : List D) (lo hi : Option Int) : sliceD (.tup xs) lo hi = .ok (.tup (cutD xs lo hi)) := rfl
@[simp] theorem sliceD_lst (xs : List D) (lo hi : Option Int) : sliceD (.lst xs) lo hi = .ok (.lst (cutD xs lo hi)) := rfl
/-- names that one owns are shared ahead of a statement -/
def frzAt (i : Nat) (g : Env → Oc) (r : Env) : Oc := g (freeze i r)
@[simp] theorem frzAt_eq (i : Nat) (g : Env → Oc) (r : Env) : frzAt i g r = g (freeze i r) := rfl
theorem rs_frz (i : Nat) {X : Cx} {W : Wi} {k : Kd} {s : Stmt} {g : Env → Oc} (h : RS X W k s g) : RS X W k s (fun r => frzAt i g r) := rs_freeze i h
end Mir
namespace Mir
open PySem PySem.Spec PyProof.Rows L2
variable [Tn]
def kI (x : List Int) : NestedKey := .tup (x.map .num)
theorem keysOf_ints : ∀ x : List Int, keyOf.keysOf (x.map D.int) = some (x.map .num)
  | [] => by simp [keyOf.keysOf]
  | i :: x => by rw [List.map_cons, keyOf.keysOf, keysOf_ints x]; simp [keyOf]
theorem keyOf_tuI (x : List Int) : keyOf (tuI x) = some (kI x) := by
  show (keyOf.keysOf (x.map D.int)).map NestedKey.tup = _
  rw [keysOf_ints]
  rfl
theorem depth_nums : ∀ x : List Int, NestedKey.depthAll (x.map NestedKey.num) = 0
  | [] => by simp [NestedKey.depthAll]
  | i :: x => by rw [List.map_cons, NestedKey.depthAll, depth_nums x]; simp [NestedKey.depth]
theorem depth_kI (x : List Int) : (kI x).depth = 1 := by
  unfold kI
  rw [NestedKey.depth, depth_nums]
theorem kI_inj {x y : List Int} (h : kI x = kI y) : x = y := by
  unfold kI at h
  injection h with h
  have z : ∀ x y : List Int, x.map NestedKey.num = y.map NestedKey.num → x = y := fun x => by
    induction x with
    | nil => intro y h; cases y with
      | nil => rfl
      | cons a b => cases h
    | cons a x ih =>
      intro y h
      cases y with
      | nil => cases h
      | cons b y =>
        rw [List.map_cons, List.map_cons] at h
        injection h with h1 h2
        injection h1 with h1
        rw [h1, ih y h2]
  exact z x y h
/-- data as keys -/
structure KeyE {α : Type} (E : α → D) (Q : α → NestedKey) : Prop where
  t : ∀ a, keyT (E a) = some (Q a)
  inj : ∀ a b, Q a = Q b → a = b
theorem KeyE.of {α : Type} {E : α → D} {Q : α → NestedKey} (K : KeyE E Q) (a : α) : keyOf (E a) = some (Q a) := (keyT_some (K.t a)).2.1
theorem keyE : KeyE tuI kI := ⟨fun x => by
  unfold keyT
  simp only [keyOf_tuI, depth_kI]
  rfl, fun _ _ => kI_inj⟩
abbrev pkD (p : List Int × List Int) : D := .tup [tuI p.1, tuI p.2]
/-- two whole numbers as a key -/
abbrev ikD (p : Int × Int) : D := .tup [.int p.1, .int p.2]
section
variable {α β : Type} [DecidableEq α]
def lookA (l : List (α × β)) (a : α) : Option β := (l.find? fun p => decide (p.1 = a)).map (·.2)
def hasA (l : List (α × β)) (a : α) : Bool := l.any fun p => decide (p.1 = a)
def setA (l : List (α × β)) (a : α) (b : β) : List (α × β) := if hasA l a = true then l.map (fun p => if p.1 = a then (p.1, b) else p) else l ++ [(a, b)]
def dicA (E : α → D) (V : β → D) (l : List (α × β)) : D := .dic (l.map fun p => E p.1) (l.map fun p => V p.2)
variable {E : α → D} {V : β → D} {Q : α → NestedKey}
theorem getK_A (K : KeyE E Q) (a : α) : ∀ l : List (α × β), getK (l.map fun p => E p.1) (l.map fun p => V p.2) (Q a) = (lookA l a).map V
  | [] => by simp [getK, lookA]
  | p :: l => by
    rw [List.map_cons, List.map_cons, getK, K.of]
    unfold lookA
    rw [List.find?_cons]
    by_cases h : p.1 = a
    · rw [if_pos (by rw [h]), decide_eq_true h]
      rfl
    · rw [if_neg (fun z => h (K.inj _ _ (Option.some.inj z))), decide_eq_false h, getK_A K a l]
      rfl
theorem hasK_A (K : KeyE E Q) (a : α) (l : List (α × β)) : hasK (l.map fun p => E p.1) (Q a) = hasA l a := by
  unfold hasK hasA
  rw [List.any_map]
  congr 1
  funext p
  simp only [Function.comp, K.of]
  by_cases h : p.1 = a
  · rw [decide_eq_true h, decide_eq_true (by rw [h])]
  · rw [decide_eq_false h, decide_eq_false (fun z => h (K.inj _ _ (Option.some.inj z)))]
theorem repK_A (K : KeyE E Q) (a : α) (b : β) : ∀ l : List (α × β), repK (l.map fun p => E p.1) (l.map fun p => V p.2) (Q a) (V b) = (l.map fun p => if p.1 = a then (p.1, b) else p).map fun p => V p.2
  | [] => by simp [repK]
  | p :: l => by
    rw [List.map_cons, List.map_cons, repK, K.of, repK_A K a b l, List.map_cons, List.map_cons]
    congr 1
    by_cases h : p.1 = a
    · rw [if_pos (by rw [h]), if_pos h]
    · rw [if_neg (fun z => h (K.inj _ _ (Option.some.inj z))), if_neg h]
theorem setK_A (K : KeyE E Q) (a : α) (b : β) (l : List (α × β)) : setK (l.map fun p => E p.1) (l.map fun p => V p.2) (E a) (Q a) (V b) = ((setA l a b).map fun p => E p.1, (setA l a b).map fun p => V p.2) := by
  unfold setK setA
  rw [hasK_A K]
  by_cases h : hasA l a = true
  · rw [if_pos h, if_pos h, repK_A K]
    have e : (l.map fun p => E p.1) = (l.map fun p => if p.1 = a then (p.1, b) else p).map fun p => E p.1 := by
      rw [List.map_map]
      refine List.map_congr_left fun p _ => ?_
      show E p.1 = E (if p.1 = a then (p.1, b) else p).1
      split <;> rfl
    rw [← e]
  · rw [if_neg h, if_neg h, List.map_append, List.map_append]
    rfl
theorem ixD_A (K : KeyE E Q) (l : List (α × β)) (a : α) {b : β} (h : lookA l a = some b) : ixD (dicA E V l) (E a) = .ok (V b) := by
  unfold ixD dicA
  simp only [K.t, getK_A K, h]
  rfl
theorem inD_A (K : KeyE E Q) (l : List (α × β)) (a : α) : inD (E a) (dicA E V l) = .ok (.bl (hasA l a)) := by
  unfold inD dicA
  simp only [K.t, hasK_A K]
theorem setD_A (K : KeyE E Q) (l : List (α × β)) (a : α) (b : β) (hl : l.length < lim) : setD (dicA E V l) (E a) (V b) = .ok (dicA E V (setA l a b)) := by
  unfold setD dicA
  simp only [K.t, List.length_map, hl, if_true, setK_A K]
@[simp] theorem lenD_A (l : List (α × β)) : lenD (dicA E V l) = .ok (.int l.length) := by
  show Res.ok (D.int ((l.map fun p => E p.1).length : Nat)) = _
  rw [List.length_map]
@[simp] theorem itemsD_A (l : List (α × β)) : itemsD (dicA E V l) = .ok (l.map fun p => E p.1) := rfl
theorem setA_new {l : List (α × β)} {a : α} (b : β) (h : a ∉ l.map (·.1)) : setA l a b = l ++ [(a, b)] := by
  unfold setA
  rw [if_neg]
  unfold hasA
  rw [List.any_eq_true]
  rintro ⟨p, hp, e⟩
  exact h (List.mem_map.mpr ⟨p, hp, of_decide_eq_true e⟩)
theorem lookA_mem {l : List (α × β)} {a : α} {b : β} (hn : (l.map (·.1)).Nodup) (h : (a, b) ∈ l) : lookA l a = some b := by
  induction l with
  | nil => cases h
  | cons p l ih =>
    rw [List.map_cons, List.nodup_cons] at hn
    unfold lookA
    rw [List.find?_cons]
    rcases List.mem_cons.mp h with z | z
    · subst z
      rw [decide_eq_true rfl]
      rfl
    · have ne : p.1 ≠ a := fun e => hn.1 (by rw [e]; exact List.mem_map.mpr ⟨_, z, rfl⟩)
      rw [decide_eq_false ne]
      exact ih hn.2 z
theorem lookA_map {l : List α} (f : α → β) {a : α} (h : a ∈ l) : lookA (l.map fun x => (x, f x)) a = some (f a) := by
  induction l with
  | nil => cases h
  | cons x l ih =>
    unfold lookA
    rw [List.map_cons, List.find?_cons]
    by_cases e : x = a
    · subst e
      rw [decide_eq_true rfl]
      rfl
    · rw [decide_eq_false (by simpa using e)]
      rcases List.mem_cons.mp h with z | z
      · exact (e z.symm).elim
      · exact ih z
theorem hasA_map (l : List α) (f : α → β) (a : α) : hasA (l.map fun x => (x, f x)) a = decide (a ∈ l) := by
  unfold hasA
  rw [List.any_map, Bool.eq_iff_iff, List.any_eq_true, decide_eq_true_iff]
  constructor
  · rintro ⟨x, hx, e⟩
    have e' : x = a := of_decide_eq_true e
    rw [← e']
    exact hx
  · intro h
    exact ⟨a, h, decide_eq_true rfl⟩
/-- a table told by a function on a row of keys -/
abbrev dicF (E : α → D) (V : β → D) (l : List α) (f : α → β) : D := dicA E V (l.map fun x => (x, f x))
end
def memsStep (found : List (List Int)) (n : Int) : List (List Int) := found.flatMap fun x => (List.range n.toNat).map fun i : Nat => x ++ [(i : Int)]
def mems (rs : List Int) : List (List Int) := rs.foldl memsStep [[]]
end Mir
namespace Mir
open PySem PySem.Spec PyProof.Rows L2
variable [Tn]
/-- a group by rounds -/
abbrev gR (rs : List Int) : D := .obj 0 [tuI rs]
/-- rounds that make a group -/
structure OkR (rs : List Int) : Prop where
  two : ∀ n ∈ rs, 2 ≤ n
  len : rs.length ≤ 7
structure OkE (rs x : List Int) : Prop where
  len : x.length = rs.length
  at_ : ∀ p ∈ x.zip rs, 0 ≤ p.1 ∧ p.1 < p.2
theorem fld_rounds (rs : List Int) : fldD (plOf [0] "rounds") (gR rs) = .ok (tuI rs) := by
  have e : plOf [0] "rounds" 0 = some 0 := by kernel_rfl
  unfold fldD
  simp [e]
/-- the sum by rounds -/
def putV (rs x y : List Int) : List Int := (x.zip (y.zip rs)).map fun p => (p.1 + p.2.1) % p.2.2
def backV (rs x : List Int) : List Int := (x.zip rs).map fun p => (0 - p.1) % p.2
def zeroV (rs : List Int) : List Int := rs.map fun _ => 0
theorem putV_len {rs x y : List Int} (h1 : x.length = rs.length) (h2 : y.length = rs.length) : (putV rs x y).length = rs.length := by simp [putV, h1, h2]
theorem put_el {rs x y : List Int} (h : OkR rs) (h1 : x.length = rs.length) (h2 : y.length = rs.length) : OkE rs (putV rs x y) := by
  refine ⟨putV_len h1 h2, fun p hp => ?_⟩
  obtain ⟨i, hi⟩ := List.getElem?_of_mem hp
  obtain ⟨g1, g2⟩ := List.getElem?_zip_eq_some.mp hi
  unfold putV at g1
  rw [List.getElem?_map, Option.map_eq_some_iff] at g1
  obtain ⟨q, hq, e⟩ := g1
  obtain ⟨_, q2⟩ := List.getElem?_zip_eq_some.mp hq
  obtain ⟨_, q3⟩ := List.getElem?_zip_eq_some.mp q2
  have en : q.2.2 = p.2 := Option.some.inj (q3.symm.trans g2)
  have t : (2 : Int) ≤ p.2 := h.two _ (List.of_mem_zip hp).2
  rw [← e, en]
  exact ⟨Int.emod_nonneg _ (by omega), Int.emod_lt_of_pos _ (by omega)⟩
theorem backV_len {rs x : List Int} (h1 : x.length = rs.length) : (backV rs x).length = rs.length := by simp [backV, h1]
theorem back_el {rs x : List Int} (h : OkR rs) (h1 : x.length = rs.length) : OkE rs (backV rs x) := by
  refine ⟨backV_len h1, fun p hp => ?_⟩
  obtain ⟨i, hi⟩ := List.getElem?_of_mem hp
  obtain ⟨g1, g2⟩ := List.getElem?_zip_eq_some.mp hi
  unfold backV at g1
  rw [List.getElem?_map, Option.map_eq_some_iff] at g1
  obtain ⟨q, hq, e⟩ := g1
  obtain ⟨_, q3⟩ := List.getElem?_zip_eq_some.mp hq
  have en : q.2 = p.2 := Option.some.inj (q3.symm.trans g2)
  have t : (2 : Int) ≤ p.2 := h.two _ (List.of_mem_zip hp).2
  rw [← e, en]
  exact ⟨Int.emod_nonneg _ (by omega), Int.emod_lt_of_pos _ (by omega)⟩
theorem zero_el {rs : List Int} (h : OkR rs) : OkE rs (zeroV rs) := by
  refine ⟨by simp [zeroV], fun p hp => ?_⟩
  obtain ⟨q1, q2⟩ := List.of_mem_zip hp
  unfold zeroV at q1
  obtain ⟨n, _, e⟩ := List.mem_map.mp q1
  have t : (2 : Int) ≤ p.2 := h.two _ q2
  omega
/-- a while that goes down: k turns at most -/
theorem whileD_down {c : Env → Res Bool} {b : Env → Oc} (P : Nat → Env → Prop) (Q : Env → Prop) (step : ∀ k r, P k r → (c r = .ok false ∧ Q r) ∨ (∃ j r', k = j + 1 ∧ c r = .ok true ∧ b r = .nx r' ∧ P j r')) :
    ∀ (k N : Nat) (r : Env), P k r → k < N → ∃ r', whileD c b N r = .nx r' ∧ Q r' := fun k => by
  induction k with
  | zero =>
    intro N r hP hN
    obtain ⟨M, rfl⟩ : ∃ M, N = M + 1 := ⟨N - 1, by omega⟩
    rcases step 0 r hP with ⟨h1, h2⟩ | ⟨j, r', h, _⟩
    · exact ⟨r, by rw [whileD, h1]; rfl, h2⟩
    · omega
  | succ k ih =>
    intro N r hP hN
    obtain ⟨M, rfl⟩ : ∃ M, N = M + 1 := ⟨N - 1, by omega⟩
    rcases step (k + 1) r hP with ⟨h1, h2⟩ | ⟨j, r', h, h1, h2, h3⟩
    · exact ⟨r, by rw [whileD, h1]; rfl, h2⟩
    · obtain rfl : k = j := by omega
      obtain ⟨r2, q1, q2⟩ := ih M r' h3 (by omega)
      refine ⟨r2, ?_, q2⟩
      rw [whileD, h1]
      simp only [lift_ok, if_true, h2]
      exact q1
theorem loopD_down {c : Env → Res Bool} {b : Env → Oc} (P : Nat → Env → Prop) (Q : Env → Prop) (step : ∀ k r, P k r → (c r = .ok false ∧ Q r) ∨ (∃ j r', k = j + 1 ∧ c r = .ok true ∧ b r = .nx r' ∧ P j r'))
    {k : Nat} {r : Env} (h : P k r) (hk : k < 1000000) : ∃ r', loopD c b r = .nx r' ∧ Q r' := by
  unfold loopD
  rw [turns_eq]
  exact whileD_down P Q step k _ r h hk
/-- so many times -/
def timesV (rs : List Int) (n : Int) (x : List Int) : List Int := (x.zip rs).map fun p => n * p.1 % p.2
/-- rounds that the program takes -/
structure OkG (rs : List Int) : Prop where
  ok : OkR rs
  most : ∀ n ∈ rs, n ≤ 144
  prod : rs.foldl (· * ·) 1 ≤ 144
theorem take_more {α : Type} {l : List α} {i : Nat} {x : α} (h : l[i]? = some x) : l.take (i + 1) = l.take i ++ [x] := by
  rw [List.take_add_one, h]
  rfl
theorem is_seq (src : D) (rs : List Int) (h : src = tuI rs ∨ src = liI rs) (cs us : List Nat) : isD cs us src (.tup [.ty "list", .ty "tuple"]) = .ok (.bl true) := by
  rcases h with rfl | rfl <;> kernel_rfl
theorem runI_nx {p n c : Nat} {g : Env → Oc} {ds : List D} {r : Env} (h : ds.length = p) (e : g (startI n c ds) = .nx r) : runI p n c g ds = selfR r := by
  unfold runI
  rw [if_pos h, e]
theorem getD_zip {xs ys : List Int} {f : Int × Int → Int} {i : Nat} (h1 : i < xs.length) (h2 : i < ys.length) : ((xs.zip ys).map f).getD i 0 = f (xs.getD i 0, ys.getD i 0) := by
  have e1 : xs[i]? = some (xs.getD i 0) := by rw [List.getD_eq_getElem?_getD, List.getElem?_eq_getElem h1]; rfl
  have e2 : ys[i]? = some (ys.getD i 0) := by rw [List.getD_eq_getElem?_getD, List.getElem?_eq_getElem h2]; rfl
  have e3 : (xs.zip ys)[i]? = some (xs.getD i 0, ys.getD i 0) := List.getElem?_zip_eq_some.mpr ⟨e1, e2⟩
  rw [List.getD_eq_getElem?_getD, List.getElem?_map, e3]
  rfl
theorem putV_at {rs x y : List Int} {i : Nat} (hi : i < rs.length) (h1 : x.length = rs.length) (h2 : y.length = rs.length) : (putV rs x y).getD i 0 = (x.getD i 0 + y.getD i 0) % rs.getD i 0 := by
  have e1 : x[i]? = some (x.getD i 0) := by rw [List.getD_eq_getElem?_getD, List.getElem?_eq_getElem (by omega)]; rfl
  have e2 : y[i]? = some (y.getD i 0) := by rw [List.getD_eq_getElem?_getD, List.getElem?_eq_getElem (by omega)]; rfl
  have e3 : rs[i]? = some (rs.getD i 0) := by rw [List.getD_eq_getElem?_getD, List.getElem?_eq_getElem hi]; rfl
  have e4 : (x.zip (y.zip rs))[i]? = some (x.getD i 0, y.getD i 0, rs.getD i 0) := List.getElem?_zip_eq_some.mpr ⟨e1, List.getElem?_zip_eq_some.mpr ⟨e2, e3⟩⟩
  unfold putV
  rw [List.getD_eq_getElem?_getD, List.getElem?_map, e4]
  rfl
theorem ext_getD {xs ys : List Int} (hl : xs.length = ys.length) (h : ∀ i, i < ys.length → xs.getD i 0 = ys.getD i 0) : xs = ys := by
  apply List.ext_getElem hl
  intro i h1 h2
  have := h i h2
  rw [List.getD_eq_getElem?_getD, List.getD_eq_getElem?_getD, List.getElem?_eq_getElem h1, List.getElem?_eq_getElem h2] at this
  exact this
theorem OkE.get {rs x : List Int} (h : OkE rs x) {i : Nat} (hi : i < rs.length) : 0 ≤ x.getD i 0 ∧ x.getD i 0 < rs.getD i 0 := by
  have e1 : x[i]? = some (x.getD i 0) := by rw [List.getD_eq_getElem?_getD, List.getElem?_eq_getElem (by rw [h.len]; exact hi)]; rfl
  have e3 : rs[i]? = some (rs.getD i 0) := by rw [List.getD_eq_getElem?_getD, List.getElem?_eq_getElem hi]; rfl
  exact h.at_ _ (List.mem_of_getElem? (List.getElem?_zip_eq_some.mpr ⟨e1, e3⟩ : (x.zip rs)[i]? = some (x.getD i 0, rs.getD i 0)))
theorem OkR.get {rs : List Int} (h : OkR rs) {i : Nat} (hi : i < rs.length) : 2 ≤ rs.getD i 0 := by
  have e3 : rs[i]? = some (rs.getD i 0) := by rw [List.getD_eq_getElem?_getD, List.getElem?_eq_getElem hi]; rfl
  exact h.two _ (List.mem_of_getElem? e3)
theorem zeroV_at (rs : List Int) (i : Nat) : (zeroV rs).getD i 0 = 0 := by
  unfold zeroV
  rw [List.getD_eq_getElem?_getD, List.getElem?_map]
  cases rs[i]? <;> rfl
/-- what stays while the number is halved -/
structure TInv (rs x0 : List Int) (n0 n : Int) (x f : List Int) : Prop where
  lx : x.length = rs.length
  ef : OkE rs f
  nn : 0 ≤ n
  eq : ∀ i, i < rs.length → (f.getD i 0 + n * x.getD i 0) % rs.getD i 0 = n0 * x0.getD i 0 % rs.getD i 0
theorem timesV_at {rs x : List Int} {n : Int} {i : Nat} (hi : i < rs.length) (hl : x.length = rs.length) : (timesV rs n x).getD i 0 = n * x.getD i 0 % rs.getD i 0 := getD_zip (f := fun p => n * p.1 % p.2) (by omega) hi
theorem TInv.done {rs x0 x f : List Int} {n0 : Int} (h : OkR rs) (hl : x0.length = rs.length) (v : TInv rs x0 n0 0 x f) : f = timesV rs n0 x0 := by
  refine ext_getD (by rw [v.ef.len]; simp [timesV, hl]) fun i hi => ?_
  have hi' : i < rs.length := by simpa [timesV, hl] using hi
  have e := v.eq i hi'
  obtain ⟨a, b⟩ := v.ef.get hi'
  rw [Int.zero_mul, Int.add_zero, Int.emod_eq_of_lt a b] at e
  rw [e, timesV_at hi' hl]
theorem backV_at {rs x : List Int} {i : Nat} (hi : i < rs.length) (hl : x.length = rs.length) : (backV rs x).getD i 0 = (0 - x.getD i 0) % rs.getD i 0 := getD_zip (f := fun p => (0 - p.1) % p.2) (by omega) hi
/-- the least number of times from 1 on that comes to nought -/
structure Least (rs x : List Int) (m : Nat) : Prop where
  one : 1 ≤ m
  z : timesV rs m x = zeroV rs
  le : ∀ j : Nat, 1 ≤ j → j < m → timesV rs j x ≠ zeroV rs
theorem Least.uniq {rs x : List Int} {m n : Nat} (a : Least rs x m) (b : Least rs x n) : m = n := by
  by_cases h : m < n
  · exact absurd a.z (b.le m a.one h)
  · by_cases h2 : n < m
    · exact absurd b.z (a.le n b.one h2)
    · omega
theorem timesV_len (rs x : List Int) (n : Int) (hl : x.length = rs.length) : (timesV rs n x).length = rs.length := by simp [timesV, hl]
theorem foldl_pos : ∀ (rs : List Int) (a : Int), 1 ≤ a → (∀ n ∈ rs, 2 ≤ n) → 1 ≤ rs.foldl (· * ·) a
  | [], _, h, _ => h
  | r :: rs, a, h, h2 => foldl_pos rs (a * r) (by
    have := h2 r List.mem_cons_self
    have q : 1 * 1 ≤ a * r := Int.mul_le_mul h (by omega) (by omega) (by omega)
    omega) fun n hn => h2 n (List.mem_cons_of_mem _ hn)
theorem times_succ {rs x : List Int} (hl : x.length = rs.length) (j : Nat) : putV rs (timesV rs j x) x = timesV rs ((j + 1 : Nat) : Int) x := ext_getD (by rw [putV_len (timesV_len rs x j hl) hl, timesV_len rs x _ hl]) fun i hi => by
  have hi' : i < rs.length := by rw [timesV_len rs x _ hl] at hi; exact hi
  rw [putV_at hi' (timesV_len rs x j hl) hl, timesV_at hi' hl, timesV_at hi' hl]
  have e : ((j + 1 : Nat) : Int) * x.getD i 0 = (j : Int) * x.getD i 0 + x.getD i 0 := by
    rw [Int.natCast_add, Int.add_mul]
    show _ + (1 : Int) * _ = _
    rw [Int.one_mul]
  rw [e, Int.emod_add_emod]
theorem prod_app (f : List Int) (a b : Int) : (f ++ [a]).foldl (· * ·) b = f.foldl (· * ·) b * a := by rw [List.foldl_append]; rfl
/-- what stays while rounds are drawn -/
structure RIM (most : Int) (i : Nat) (f : List Int) (left : Int) : Prop where
  len : f.length ≤ i
  two : ∀ n ∈ f, 2 ≤ n
  le : ∀ n ∈ f, n ≤ most
  one : 1 ≤ left
  prod : f.foldl (· * ·) 1 * left ≤ most
theorem RIM.left_le {most : Int} {i : Nat} {f : List Int} {left : Int} (v : RIM most i f left) : left ≤ most := by
  have p := foldl_pos f 1 (by omega) v.two
  have q : 1 * left ≤ f.foldl (· * ·) 1 * left := Int.mul_le_mul_of_nonneg_right p (by have := v.one; omega)
  have := v.prod
  omega
theorem RIM.step {most : Int} {i : Nat} {f : List Int} {left n : Int} (v : RIM most i f left) (h2 : 2 ≤ n) (h : n ≤ left) : RIM most (i + 1) (f ++ [n]) (left / n) where
  len := by have := v.len; simp; omega
  two := fun m hm => by
    rcases List.mem_append.mp hm with z | z
    · exact v.two m z
    · rw [List.mem_singleton.mp z]; exact h2
  le := fun m hm => by
    rcases List.mem_append.mp hm with z | z
    · exact v.le m z
    · have := v.left_le
      rw [List.mem_singleton.mp z]; omega
  one := by
    have z : 1 * n ≤ left := by omega
    exact (Int.le_ediv_iff_mul_le (by omega)).mpr z
  prod := by
    rw [prod_app, Int.mul_assoc]
    have p := foldl_pos f 1 (by omega) v.two
    have z : n * (left / n) ≤ left := Int.mul_ediv_self_le (by omega)
    have q := Int.mul_le_mul_of_nonneg_left z (show 0 ≤ f.foldl (· * ·) 1 by omega)
    have := v.prod
    omega
theorem RIM.mono {most : Int} {i : Nat} {f : List Int} {left : Int} (v : RIM most i f left) : RIM most (i + 1) f left := ⟨by have := v.len; omega, v.two, v.le, v.one, v.prod⟩
end Mir
namespace Mir
open PySem PySem.Spec PyProof.Rows L2
variable [Tn]
theorem nodup_flat {α β : Type} {f : α → List β} : ∀ {l : List α}, (∀ a ∈ l, (f a).Nodup) → l.Pairwise (fun a b => ∀ x ∈ f a, x ∉ f b) → (l.flatMap f).Nodup
  | [], _, _ => by simp
  | a :: l, h, p => by
    rw [List.pairwise_cons] at p
    rw [List.flatMap_cons, List.nodup_append]
    refine ⟨h a List.mem_cons_self, nodup_flat (fun b hb => h b (List.mem_cons_of_mem _ hb)) p.2, fun x hx y hy e => ?_⟩
    subst e
    obtain ⟨b, hb, hy⟩ := List.mem_flatMap.mp hy
    exact p.1 b hb x hx hy
theorem nodup_inj {α β : Type} {f : α → β} (hf : ∀ a b, f a = f b → a = b) : ∀ {l : List α}, l.Nodup → (l.map f).Nodup
  | [], _ => by simp
  | a :: l, h => by
    rw [List.nodup_cons] at h
    rw [List.map_cons, List.nodup_cons]
    refine ⟨fun hm => ?_, nodup_inj hf h.2⟩
    obtain ⟨b, hb, e⟩ := List.mem_map.mp hm
    exact h.1 (hf _ _ e ▸ hb)
theorem sum_const {α : Type} (c : Nat) : ∀ l : List α, (l.map fun _ => c).sum = l.length * c
  | [] => by simp
  | a :: l => by rw [List.map_cons, List.sum_cons, sum_const c l, List.length_cons, Nat.succ_mul]; omega
theorem OkE.nil : OkE [] [] := ⟨rfl, fun _ h => nomatch h⟩
theorem OkE.cons {n i : Int} {rs t : List Int} : OkE (n :: rs) (i :: t) ↔ (0 ≤ i ∧ i < n) ∧ OkE rs t := by
  constructor
  · intro h
    refine ⟨h.at_ (i, n) (by simp), ⟨by have := h.len; simpa using this, fun p hp => h.at_ p (by rw [List.zip_cons_cons]; exact List.mem_cons_of_mem _ hp)⟩⟩
  · rintro ⟨h1, h2⟩
    refine ⟨by simp [h2.len], fun p hp => ?_⟩
    rw [List.zip_cons_cons] at hp
    rcases List.mem_cons.mp hp with z | z
    · subst z; exact h1
    · exact h2.at_ p z
theorem mem_fold : ∀ (rs : List Int) (S : List (List Int)) (x : List Int), x ∈ rs.foldl memsStep S ↔ ∃ s t, s ∈ S ∧ x = s ++ t ∧ OkE rs t
  | [], S, x => by
    rw [List.foldl_nil]
    constructor
    · intro h
      exact ⟨x, [], h, by simp, .nil⟩
    · rintro ⟨s, t, hs, rfl, ht⟩
      have : t = [] := List.length_eq_zero_iff.mp ht.len
      subst this
      simpa using hs
  | n :: rs, S, x => by
    rw [List.foldl_cons, mem_fold rs]
    constructor
    · rintro ⟨s, t, hs, rfl, ht⟩
      unfold memsStep at hs
      obtain ⟨a, ha, hs⟩ := List.mem_flatMap.mp hs
      obtain ⟨i, hi, rfl⟩ := List.mem_map.mp hs
      have := List.mem_range.mp hi
      exact ⟨a, (i : Int) :: t, ha, by simp, OkE.cons.mpr ⟨⟨by omega, by omega⟩, ht⟩⟩
    · rintro ⟨s, t, hs, rfl, ht⟩
      cases t with
      | nil => have := ht.len; simp at this
      | cons i t =>
        obtain ⟨⟨h1, h2⟩, h3⟩ := OkE.cons.mp ht
        refine ⟨s ++ [i], t, ?_, by simp, h3⟩
        unfold memsStep
        refine List.mem_flatMap.mpr ⟨s, hs, List.mem_map.mpr ⟨i.toNat, List.mem_range.mpr (by omega), ?_⟩⟩
        rw [Int.toNat_of_nonneg h1]
theorem mem_mems {rs x : List Int} : x ∈ mems rs ↔ OkE rs x := by
  unfold mems
  rw [mem_fold]
  constructor
  · rintro ⟨s, t, hs, rfl, ht⟩
    rw [List.mem_singleton.mp hs]
    simpa using ht
  · intro h
    exact ⟨[], x, by simp, by simp, h⟩
theorem step_len (S : List (List Int)) (n : Int) : (memsStep S n).length = S.length * n.toNat := by
  unfold memsStep
  rw [List.length_flatMap]
  simp [sum_const]
theorem fold_len : ∀ (rs : List Int) (S : List (List Int)), (∀ n ∈ rs, 0 ≤ n) → ((rs.foldl memsStep S).length : Int) = rs.foldl (· * ·) (S.length : Int)
  | [], S, _ => rfl
  | n :: rs, S, h => by
    rw [List.foldl_cons, List.foldl_cons, fold_len rs _ fun m hm => h m (List.mem_cons_of_mem _ hm), step_len]
    congr 1
    have := h n List.mem_cons_self
    rw [Int.natCast_mul, Int.toNat_of_nonneg this]
theorem mems_len {rs : List Int} (h : ∀ n ∈ rs, 0 ≤ n) : ((mems rs).length : Int) = rs.foldl (· * ·) 1 := by
  unfold mems
  rw [fold_len rs _ h]
  rfl
theorem fold_nodup : ∀ (rs : List Int) (S : List (List Int)) (k : Nat), S.Nodup → (∀ s ∈ S, s.length = k) → (rs.foldl memsStep S).Nodup
  | [], S, _, h, _ => h
  | n :: rs, S, k, h, hk => by
    rw [List.foldl_cons]
    refine fold_nodup rs _ (k + 1) ?_ fun s hs => ?_
    · unfold memsStep
      refine nodup_flat (fun s _ => ?_) ?_
      · refine nodup_inj (fun a b e => ?_) List.nodup_range
        have := List.append_cancel_left e
        have z : ((a : Nat) : Int) = b := by simpa using this
        omega
      · refine List.Pairwise.imp_of_mem (R := fun a b => a ≠ b) (fun {a b} ha hb ne => ?_) h
        intro x hx hy
        obtain ⟨i, _, rfl⟩ := List.mem_map.mp hx
        obtain ⟨j, _, e⟩ := List.mem_map.mp hy
        have := List.append_inj_left e (by rw [hk a ha, hk b hb])
        exact ne this.symm
    · unfold memsStep at hs
      obtain ⟨a, ha, hs⟩ := List.mem_flatMap.mp hs
      obtain ⟨i, _, rfl⟩ := List.mem_map.mp hs
      simp [hk a ha]
theorem mems_nodup (rs : List Int) : (mems rs).Nodup := fold_nodup rs [[]] 0 (by simp) (by simp)
/-- a walk over a row, by places -/
theorem forD_row {α : Type} {pre0 : List α} {f : D → Env → Oc} (A : α → D) (P : List α → Env → Prop) : ∀ {ds : List α} {r : Env} {pre : List α}, (∀ (pre : List α) a, (pre ++ [a]) <+: pre0 → ∀ r, P pre r → ∃ r', f (A a) r = .nx r' ∧ P (pre ++ [a]) r') → pre ++ ds = pre0 → P pre r → ∃ r', forD f (ds.map A) r = .nx r' ∧ P (pre ++ ds) r'
  | [], r, pre, _, _, hp => ⟨r, rfl, by simpa using hp⟩
  | a :: ds, r, pre, h, he, hp => by
    obtain ⟨r1, e, p1⟩ := h pre a ⟨ds, by simpa using he⟩ r hp
    obtain ⟨r2, e2, p2⟩ := forD_row A P (pre := pre ++ [a]) (ds := ds) h (by simpa using he) p1
    refine ⟨r2, ?_, by simpa using p2⟩
    rw [List.map_cons, forD_cons, e]
    exact e2
theorem runO_rt {p n : Nat} {g : Env → Oc} {ds : List D} {d : D} (h : ds.length = p) (e : g (startD n ds) = .rt d) : runO p n g ds = .ok d := by
  unfold runO
  rw [if_pos h, e]
theorem setG_A {α β : Type} [DecidableEq α] {E : α → D} {V : β → D} {Q : α → NestedKey} (K : KeyE E Q) {i : Nat} {fv fi : Env → Res D} {r : Env} {l : List (α × β)} {a : α} {b : β} (h : r[i]? = some (.ow .flat (dicA E V l))) (hv : fv r = .ok (V b)) (hk : fi r = .ok (E a)) (hl : l.length < lim) : setG i fv fi r = .nx (r.set i (.ow .flat (dicA E V (setA l a b)))) := by
  have o : ownF i r = some (dicA E V l) := by unfold ownF; rw [h]
  unfold setG
  rw [hv]
  simp only [lift, o, hk, setD_A K l a b hl]
end Mir
namespace Mir
open PySem PySem.Spec PyProof.Rows L2
variable [Tn]
section
variable {G : GC} {J : L2.St → Prop} {H0 F0 F H : Hp} {fp : Nat → List Addr} {σ : L2.St} {r : Env}
theorem MS.freezeX (m : MS G J H0 F0 fp F σ H r) {i : Nat} {sp : Shape} {d : D} (e : r[i]? = some (.ow sp d)) : MS G J H0 F0 fp (share F H (fp i)) σ H (Mir.freeze i r) := by
  unfold Mir.freeze
  rw [e]
  obtain ⟨⟨v, h1, h2⟩, h3⟩ := m.ow i sp d e
  have hi : i < r.length := (List.getElem?_eq_some_iff.mp e).1
  refine ⟨m.jo, m.s0.share m.sub h2.nt, m.f0.trans (share_same m.sub _), share_sub m.sub _, fun a o q => ?_, by simpa using m.len, fun j e' h => ?_, fun j t e' h => ?_, fun j k t u d' e' n q1 q2 => ?_, m.t0⟩
  · by_cases ha : a ∈ fp i
    · exact .inr (h3 a ha)
    · rw [share_ne ha] at q
      exact m.new a o q
  · rcases get_set_slot h with ⟨rfl, x, hl⟩ | ⟨ne, h⟩
    · cases x
      exact ⟨v, h1, h2.rep m.sub _ fun _ z => z⟩
    · obtain ⟨w, q1, q2⟩ := m.sh j e' h
      exact ⟨w, q1, q2.mono (share_same m.sub _)⟩
  · rcases get_set_slot h with ⟨_, x, _⟩ | ⟨ne, h⟩
    · cases x
    · obtain ⟨⟨w, q1, q2⟩, q3⟩ := m.ow j t e' h
      refine ⟨⟨w, q1, q2.keep ⟨fun _ _ _ z => z, share_same m.sub _, fun a ha z => ?_⟩⟩, q3⟩
      rw [share_ne (m.ap j i t sp e' d (Ne.symm ne) h e a ha)]
      exact z
  · rcases get_set_slot q1 with ⟨_, x, _⟩ | ⟨_, q1⟩
    · cases x
    · rcases get_set_slot q2 with ⟨_, x, _⟩ | ⟨_, q2⟩
      · cases x
      · exact m.ap j k t u d' e' n q1 q2
end
end Mir
namespace Mir
open PySem PySem.Spec PyProof.Rows L2
variable [Tn]
/-- the pairs of places, the lesser first -/
def placeRow (n i : Nat) : List (Nat × Nat) := (List.range (n - (i + 1))).map fun k => (i, i + 1 + k)
def placePairs (n : Nat) : List (Nat × Nat) := (List.range n).flatMap (placeRow n)
theorem mem_placePairs {n : Nat} {p : Nat × Nat} : p ∈ placePairs n ↔ p.1 < p.2 ∧ p.2 < n := by
  unfold placePairs placeRow
  rw [List.mem_flatMap]
  constructor
  · rintro ⟨i, hi, h⟩
    obtain ⟨k, hk, rfl⟩ := List.mem_map.mp h
    have := List.mem_range.mp hk
    exact ⟨by show i < i + 1 + k; omega, by show i + 1 + k < n; omega⟩
  · rintro ⟨h1, h2⟩
    refine ⟨p.1, List.mem_range.mpr (by omega), List.mem_map.mpr ⟨p.2 - (p.1 + 1), List.mem_range.mpr (by omega), ?_⟩⟩
    obtain ⟨a, b⟩ := p
    have h1 : a < b := h1
    show (a, a + 1 + (b - (a + 1))) = (a, b)
    rw [Nat.add_sub_cancel' h1]
/-- what carries are made of -/
structure OkP (lo up : List Int) (ps : List (List Int)) (L : List ((Nat × Nat) × List Int)) : Prop where
  len : ps.length = up.length
  ps : ∀ k, k < up.length → OkE lo (ps.getD k [])
  key : L.map (·.1) = placePairs up.length
  val : ∀ q ∈ L, OkE lo q.2
theorem OkP.at_ {lo up : List Int} {ps : List (List Int)} {L : List ((Nat × Nat) × List Int)} (h : OkP lo up ps L) {q : (Nat × Nat) × List Int} (hq : q ∈ L) : q.1.1 < q.1.2 ∧ q.1.2 < up.length := by
  have : q.1 ∈ placePairs up.length := by rw [← h.key]; exact List.mem_map.mpr ⟨q, hq, rfl⟩
  exact mem_placePairs.mp this
end Mir
namespace Mir
open PySem PySem.Spec PyProof.Rows L2
variable [Tn]
theorem drawsS {prog : Program} {w : World} {A : Around} (hh : A.handled = none) (k : Bool) (it l : Addr) (hne : l ≠ it) (items : Array Value) :
    Draws prog w A it [it, l] items.size (fun i v => items[i]? = some v) (fun i h => SIt h k it l i ∧ SSrc h k l items) where
  live := fun _ _ st => let ⟨o, ho, _⟩ := st.1.ob; ⟨o, ho⟩
  frame := fun _ _ _ st hk => ⟨st.1.at fun o e => hk it (by simp) o e, st.2.at fun o e => hk l (by simp) o e⟩
  item := fun i s Q E hi st hQ => by
    refine nextS_item st.1 st.2 (x := items[i]) (by simp [hi]) fun h' hit' hs' => ?_
    exact hQ _ h' s.toks (by simp [hi]) ⟨hit', st.2.at fun o e => hs'.extBut _ _ hne e⟩ hs'
  done := fun s Q E st hE => nextS_end hh st.1 st.2 (by simp) hE
abbrev eH1 (h : Heap) (k : Bool) (l : Addr) : Heap := h.push { cls := .type (clsI k), data := .fields #[.ref l, .int 0 0] }
abbrev eH2 (h : Heap) (k : Bool) (l : Addr) : Heap := (eH1 h k l).push { cls := .type "enumerate", data := .fields #[.none, .bool false, .ref h.objs.size, rawInt 0, .none, .none] }
theorem meets_enumS (k : Bool) (l : Addr) (items : Array Value) :
    Meets (Builtin.«enumerate.__new__» ⟨[.type "enumerate", .ref l], []⟩) (fun _ R s => SSrc s.heap k l items ∧
      R (.ok (.ret (.ref (eH1 s.heap k l).objs.size))) { s with heap := eH2 s.heap k l }) :=
  .of_wp fun prog w A R s h => by
    obtain ⟨hp, g, d, tk, os⟩ := s; obtain ⟨h1, h⟩ := h
    have hsub := sub_enumerate
    have q1 : ∀ {A' : Around} {E : Value → Shared → Prop} {Q : Value → Shared → Prop}, Q (.ref hp.objs.size) ⟨eH1 hp k l, g, d, tk, os⟩ → wpAny (model prog w) A' (pyIter (.ref l)) Q E ⟨hp, g, d, tk, os⟩ :=
      fun q => iterS (s := ⟨hp, g, d, tk, os⟩) h1 q
    wp_walk using q1
    refine wpAny_stack_any fun st => wpAny_pure ?_
    split
    · rename_i c _ _ _ _ _
      cases (c == Value.type "enumerate")
      · wp_walk using q1
        exact ⟨_, rfl, h⟩
      · wp_walk using q1
        exact ⟨_, rfl, h⟩
    · wp_walk using q1
      exact ⟨_, rfl, h⟩
section
variable {prog : Program} {w : World} {A : Around} {E : Value → Shared → Prop} {s : Shared}
theorem call_enumS {k : Bool} {l : Addr} {items : Array Value} {Q : Value → Shared → Prop} (hL : SSrc s.heap k l items)
    (h : ∀ h', IsEnum h' (s.heap.objs.size + 1) s.heap.objs.size 0 .none → SIt h' k s.heap.objs.size l 0 → h'.objs.size = s.heap.objs.size + 2 →
      (∀ b o, s.heap.get? b = some o → h'.get? b = some o) → Q (.ref (s.heap.objs.size + 1)) { s with heap := h' }) :
    wpAny (model prog w) A (call (.type "enumerate") [.ref l]) Q E s := by
  refine callType_new F.called_enumerate (by decide) (F.typeCall_enumerate_1 _) (F.newCall_enumerate_1 _) (fun obj => F.args_object_init_2 obj _) F.entry_enumerate_new
    (meets_enumS k l items) ⟨hL, ?_⟩
  have hz : (eH1 s.heap k l).objs.size = s.heap.objs.size + 1 := Heap.size_push ..
  show _ ∧ _
  rw [hz]
  have he : IsEnum (eH2 s.heap k l) (s.heap.objs.size + 1) s.heap.objs.size 0 .none := by
    have := Heap.get?_push_size (eH1 s.heap k l)
      (o := { cls := .type "enumerate", data := .fields #[.none, .bool false, .ref s.heap.objs.size, rawInt 0, .none, .none] }) rfl
    rw [hz] at this; exact this
  have hi : (eH2 s.heap k l).get? s.heap.objs.size = some _ := Heap.get?_push_of_some _ (Heap.get?_push_size _ rfl)
  exact ⟨⟨_, he, rfl⟩, h _ he (show SIt _ k _ l 0 by cases k <;> exact ⟨_, hi, rfl, rfl⟩) (by rw [Heap.size_push, hz]) fun b o x => Heap.get?_push_of_some _ (Heap.get?_push_of_some _ x)⟩
end
section
variable {prog : Program} {w : World} {A : Around} {E : Value → Shared → Prop} {s : Shared}
theorem enumS_end {k : Bool} {e it l : Addr} {i : Nat} {items : Array Value} {c : Int} {old : Value} {Q : Option Value → Shared → Prop} (hh : A.in1.handled = none)
    (he : IsEnum s.heap e it c old) (hit : SIt s.heap k it l i) (hl : SSrc s.heap k l items) (hx : items[i]? = none)
    (hQ : ∀ h', Heap.ExtBut it s.heap h' → Q none { s with heap := h' }) : wpAny (model prog w) A (pyNext (.ref e)) Q E s := by
  have hT : s.TypeIs (.ref e) "enumerate" := ⟨_, he, rfl⟩
  unfold pyNext
  refine wpAny_bind (wpAny_attempt (wpAny_callSpecial?_slot (name := Str.ofString "__next__") hT F.slot_enumerate_next
    (wpAny_call_entry F.slot_enumerate_next hT F.entry_enumerate_next ?_ (F.args_enumerate_next_1 _))))
  show wpAny _ _ (field (.ref e) 2 >>= _) _ _ _
  refine wpAny_bind (wpAny_field he rfl (x := .ref it) rfl ?_)
  refine wpAny_bind (nextS_end hh hit hl hx fun h' x he' hx' => ?_)
  obtain ⟨o, ho, hc⟩ := hx'
  refine wpAny_bind (wpAny_isInstance (T := "StopIteration") (b := true) ⟨o, ho, hc⟩ isSubtype_stop ?_)
  exact wpAny_pure (hQ _ he')
end
/-- the items of a list or a tuple that stands, each in a new pair -/
def IteS (K : PySem.W.Frag) (k : Bool) (a : Addr) (ys : List V) : It :=
  ⟨fun i H => SqS K H k a ys ∧ i < ys.length, fun i H v H' => ∃ (T : Addr) (x : V), v = .ref T ∧ H T = none ∧ H' = upd H T (.tup [.int (i : Nat), x]) ∧ ys[i]? = some x, fun i H => SqS K H k a ys ∧ ys.length ≤ i⟩
theorem turn_enumS {P : Program} {w : World} {K : PySem.W.Frag} {elts : List Expr} {kk : Nat} {tpos : Pos} {k : Bool} {a e it : Addr} {ys : List V} (hai : a ≠ it) (hea : e ≠ a) (hne : e ≠ it) :
    Turn P w K (.Tuple elts kk tpos) (IteS K k a ys) [e, it] e (fun i h => (∃ old, IsEnum h e it ((i : Nat) : Int) old) ∧ SIt h k it a i) where
  mem := by simp
  obj := fun i h st b hb => by
    obtain ⟨⟨old, he⟩, hi⟩ := st
    have e' : b = e ∨ b = it := by simpa using hb
    rcases e' with z | z
    · rw [z]; exact ⟨_, he, fun v q => nomatch q⟩
    · rw [z]; exact hi.ob
  keep := fun i h h' st k => let ⟨⟨old, he⟩, hi⟩ := st; ⟨⟨old, k e (by simp) _ he⟩, hi.at fun o q => k it (by simp) o q⟩
  item := by
    intro X hP hw hK hc i pins s σ H E I hf st hg
    subst hP hw hK
    obtain ⟨⟨old, he⟩, hit⟩ := st
    obtain ⟨hq, hx⟩ := hg
    obtain ⟨its, rv, p⟩ := Inv.srcS I hq
    have hl := rv.length
    have hel : e < s.heap.objs.size := Heap.lt_size he
    have hil : it < s.heap.objs.size := hit.lt
    have hh : X.A.in1.handled = none := I.ok.hd hc
    refine wpAny_pyNext_enum_itemD (drawsS hh k it a hai its.toArray) he ⟨hit, p⟩ (by simp; omega) hne (by simp [hne, hea]) fun u h' tk hu ho hst' hT hsz hk => ?_
    obtain ⟨hit', p'⟩ := hst'
    have hx1 : ys[i]? = some (ys[i]'hx) := List.getElem?_eq_getElem hx
    generalize ys[i]'hx = x at hx1
    obtain ⟨u', hu', ru⟩ := rv.get hx1
    have eu : u' = u := by
      have q : its[i]? = some u := by simpa using hu
      rw [q] at hu'; exact (Option.some.inj hu').symm
    subst eu
    refine ⟨_, rfl, wpAny_letOwnedTupleGo_enum (s := { s with heap := h', toks := tk + 1 }) ho fun h'' he' sb => ?_⟩
    have hT2 : h''.get? s.heap.objs.size = some { cls := .type "tuple", data := .seq #[.int i tk, u'] } := (sb.2 _ (Nat.ne_of_gt hel)).trans hT
    have new : ObjOk X.prog X.w (upd H s.heap.objs.size (.tup [.int (i : Nat), x])) h'' s.heap.objs.size (.tup [.int (i : Nat), x]) :=
      ⟨by show 2 ≤ sizeLine; decide, [.int i tk, u'], .cons ⟨_, rfl⟩ (.cons ru .nil), ⟨_, hT2, rfl, _, rfl⟩⟩
    have I1 : L2.Inv X pins σ (upd H s.heap.objs.size (.tup [.int (i : Nat), x])) { s with heap := h'', toks := tk + 1 } :=
      I.turnedNew (t' := tk + 1) (ch := [e, it]) (fun b ob hb q => (sb.2 b (fun z => hb (by simp [z]))).trans (hk b ob (fun z => hb (by simp [z])) (fun z => hb (by simp [z])) q)) hf (Nat.le_refl _) new
    refine ⟨.ref s.heap.objs.size, _, I1, rfl, ⟨_, x, rfl, I.hok.fresh (Nat.le_refl _), rfl, hx1⟩, ⟨⟨u', ?_⟩, hit'.at fun o q => (sb.2 it (Ne.symm hne)).trans q⟩, fun b hb => ?_⟩
    · have e1 : ((i + 1 : Nat) : Int) = (i : Int) + 1 := by omega
      rw [e1]; exact he'
    · have hb' : b < s.heap.objs.size := by
        have e' : b = e ∨ b = it := by simpa using hb
        rcases e' with z | z
        · rw [z]; exact hel
        · rw [z]; exact hil
      rw [upd_ne (Nat.ne_of_lt hb')]
      exact (hf b hb).1
  done := by
    intro X hP hw hK hc i pins s σ H E I hf st hg
    subst hP hw hK
    obtain ⟨⟨old, he⟩, hit⟩ := st
    obtain ⟨hq, hx⟩ := hg
    obtain ⟨its, rv, p⟩ := Inv.srcS I hq
    obtain ⟨f0, f1, f2, f3, f4, f5⟩ := hf it (by simp)
    have hl := rv.length
    have hh : X.A.in1.handled = none := I.ok.hd hc
    exact enumS_end hh he hit p (by simp; omega) fun h' eb => ⟨rfl, I.turned (t' := s.toks) (fun b o hb q => eb b o hb q) f0 f1 f3 f4 f5⟩
  self := fun A i s Q E st h => let ⟨⟨_, he⟩, _⟩ := st; wpAny_pyIter_enum he h
def iEnumS (K : PySem.W.Frag) (ta : TA) : TI := fun σ H R => ta σ H fun vs H1 => ∃ (k : Bool) (a : Addr) (ys : List V), vs = [.ref a] ∧ SqS K H1 k a ys ∧ R (IteS K k a ys) H1
theorem pi_enumS {X : Cx} {e : Expr} {ta : TA} {p pos tpos : Pos} {elts : List Expr} {kk : Nat} (hg : Gl X "enumerate") (hm : X.mg "enumerate" = none) (ha : PA X [e] ta) (hs : starEach [e] X.env = [(false, eval e X.env)] := by rfl) :
    PI X (.Tuple elts kk tpos) (.Call (.Name "enumerate" p) [e] [] pos) (iEnumS X.K ta) := by
  refine ⟨fun pins s σ H R I h => ?_⟩
  refine Call_ (ld_blt I hg hm boot_enumerate (PyProof.Rows.callWith_type1 (thn (ha.run pos pins s σ H _ I h) fun us s1 ⟨vs, H1, I1, r1, q1⟩ => ?_) hs rfl))
  obtain ⟨k, a, ys, ex, hq, q⟩ := q1
  subst ex
  cases r1 with
  | cons r rr =>
    cases rr
    cases r
    obtain ⟨its, rv, p'⟩ := Inv.srcS I1 hq
    have hlt := p'.lt
    refine call_enumS p' fun h' he hit hsz hk => wpAny_pyIter_enum he ?_
    have I2 : L2.Inv X pins σ H1 { s1 with heap := h' } := I1.kept (t' := s1.toks) hk
    refine ⟨s1.heap.objs.size + 1, [s1.heap.objs.size + 1, s1.heap.objs.size], _, _, H1, rfl, I2, turn_enumS (Nat.ne_of_lt hlt) (Nat.ne_of_gt (Nat.lt_succ_of_lt hlt)) (Nat.succ_ne_self _), ⟨⟨.none, he⟩, hit⟩, fun b hb => ?_, q⟩
    have e' : b = s1.heap.objs.size + 1 ∨ b = s1.heap.objs.size := by simpa using hb
    have hle : s1.heap.objs.size ≤ b := by
      rcases e' with z | z
      · rw [z]; exact Nat.le_add_right _ _
      · rw [z]; exact Nat.le_refl _
    exact I1.fpOk hle (I1.hok.fresh hle)
theorem WalkD.enumS {G : GC} {F B : Hp} {k : Bool} {a : Addr} {ys : List V} {ds : List D} (hs : SqS G.K B k a ys) (r : RepAll G F ys ds) : WalkD G F B (IteS G.K k a ys) (enumL ds) where
  goes := fun i H hi s => by
    have w := r.length
    rw [enumL_len] at hi
    exact ⟨hs.keep s, by omega⟩
  stops := fun H s => by
    have w := r.length
    exact ⟨hs.keep s, by rw [enumL_len]; omega⟩
  yields := fun i F2 H2 v H3 hi s1 s2 _ ⟨T, x, e1, e2, e3, g⟩ => by
    subst e1 e3
    obtain ⟨c, t, m⟩ := r.getV g
    exact ⟨_, .tup [.int (i : Nat), c], Grow.mk1 s2 e2, enumL_get t, Rep.tup (.of upd_same) (.cons (.int _) (.cons ((m.mono s1).mono (Grow.mk1 s2 e2).f) .nil))⟩
def enumS : List D → Res (List D)
  | [d] => match seqQ d with
    | some xs => .ok (enumL xs)
    | none => .bad
  | _ => .bad
@[simp] theorem enumS_lst (xs : List D) : enumS [.lst xs] = .ok (enumL xs) := rfl
@[simp] theorem enumS_tup (xs : List D) : enumS [.tup xs] = .ok (enumL xs) := rfl
@[simp] theorem enumS_scr (ns : List Int) : enumS [.scr ns] = .ok (enumL (ns.map D.int)) := rfl
theorem enumS_inv (ds : List D) : (∃ d xs, ds = [d] ∧ seqQ d = some xs ∧ enumS ds = .ok (enumL xs)) ∨ enumS ds = .bad := by
  unfold enumS
  split
  · rename_i d
    split
    · rename_i xs h; exact .inl ⟨d, xs, rfl, h, rfl⟩
    · exact .inr rfl
  · exact .inr rfl
section
variable {X : Cx} {W : Wi} {e : Expr} {p pos tpos : Pos} {elts : List Expr} {kk : Nat}
theorem ri_enumS {fa : Env → Res (List D)} (hm : X.mg "enumerate" = none) (ha : RA X W [e] fa) (hg : Gl X "enumerate" := by rfl) (hs : starEach [e] X.env = [(false, eval e X.env)] := by rfl) :
    RI X W true (.Tuple elts kk tpos) (.Call (.Name "enumerate" p) [e] [] pos) (fun r => fa r >>= enumS) := by
  refine ⟨fun pins s σ H R I ⟨H0, F0, fp, F, r, m, o⟩ => (pi_enumS hg hm ha hs).run pins s σ H R I ⟨H0, F0, fp, F, r, m, o.bind fun F' H' ds gr o2 vs rv => ?_⟩⟩
  rcases enumS_inv ds with ⟨d, xs, rfl, w, e⟩ | e
  · rw [e] at o2
    cases rv with
    | cons r1 rr =>
      cases rr
      obtain ⟨k, a, ys, rfl, q, ra⟩ := seqQ_rep (Same.refl F') r1 w
      exact ⟨k, a, ys, rfl, q.keep gr.sub, o2 F' H' (Grow.refl gr.sub) _ (WalkD.enumS q ra)⟩
  · rw [e] at o2; exact o2.elim
end
end Mir
namespace Mir
variable [Tn]
/-- images that make a map -/
structure OkI (s g : List Int) (im : List (List Int)) : Prop where
  len : im.length = s.length
  el : ∀ y ∈ im, OkE g y
  nil : ∀ p ∈ s.zip im, timesV g p.1 p.2 = zeroV g
theorem el_of_mod {g x : List Int} (h : OkR g) (hl : x.length = g.length) (hm : ∀ i, i < g.length → ∃ z, x.getD i 0 = z % g.getD i 0) : OkE g x := by
  refine ⟨hl, fun p hp => ?_⟩
  obtain ⟨i, hi⟩ := List.getElem?_of_mem hp
  obtain ⟨g1, g2⟩ := List.getElem?_zip_eq_some.mp hi
  have hi' : i < g.length := (List.getElem?_eq_some_iff.mp g2).1
  obtain ⟨z, e⟩ := hm i hi'
  have t := h.get hi'
  have e1 : x.getD i 0 = p.1 := by rw [List.getD_eq_getElem?_getD, g1]; rfl
  have e2 : g.getD i 0 = p.2 := by rw [List.getD_eq_getElem?_getD, g2]; rfl
  rw [← e1, ← e2, e]
  exact ⟨Int.emod_nonneg _ (by omega), Int.emod_lt_of_pos _ (by omega)⟩
theorem times_el {g x : List Int} {n : Int} (h : OkR g) (hl : x.length = g.length) : OkE g (timesV g n x) := el_of_mod h (timesV_len g x n hl) fun i hi => ⟨_, timesV_at hi hl⟩
/-- the heads -/
def headV (n at_ : Nat) : List Int := (List.range n).map fun k => if k = at_ then 1 else 0
theorem headV_at {n a i : Nat} (hi : i < n) : (headV n a).getD i 0 = if i = a then 1 else 0 := by
  unfold headV
  rw [List.getD_eq_getElem?_getD, List.getElem?_map, List.getElem?_range hi]
  rfl
theorem headV_len (n a : Nat) : (headV n a).length = n := by simp [headV]
theorem OkI.at_ {s g : List Int} {im : List (List Int)} (h : OkI s g im) {i : Nat} (hi : i < s.length) : OkE g (im.getD i []) ∧ timesV g (s.getD i 0) (im.getD i []) = zeroV g := by
  have e1 : s[i]? = some (s.getD i 0) := by rw [List.getD_eq_getElem?_getD, List.getElem?_eq_getElem hi]; rfl
  have e2 : im[i]? = some (im.getD i []) := by rw [List.getD_eq_getElem?_getD, List.getElem?_eq_getElem (by rw [h.len]; exact hi)]; rfl
  exact ⟨h.el _ (List.mem_of_getElem? e2), h.nil (s.getD i 0, im.getD i []) (List.mem_of_getElem? (List.getElem?_zip_eq_some.mpr ⟨e1, e2⟩))⟩
end Mir
namespace Mir
variable [Tn]
theorem el_mod {lo v : List Int} (h : OkE lo v) {p : Nat} (hp : p < lo.length) : v.getD p 0 % lo.getD p 0 = v.getD p 0 := by
  obtain ⟨a, b⟩ := h.get hp
  exact Int.emod_eq_of_lt a b
theorem putV_assoc {rs x y z : List Int} (h1 : x.length = rs.length) (h2 : y.length = rs.length) (h3 : z.length = rs.length) : putV rs (putV rs x y) z = putV rs x (putV rs y z) := by
  have l1 := putV_len h1 h2
  have l2 := putV_len h2 h3
  refine ext_getD (by rw [putV_len l1 h3, putV_len h1 l2]) fun i hi => ?_
  rw [putV_len h1 l2] at hi
  rw [putV_at hi l1 h3, putV_at hi h1 h2, putV_at hi h1 l2, putV_at hi h2 h3, Int.emod_add_emod, Int.add_emod_emod, Int.add_assoc]
theorem head_el {up : List Int} (h : OkR up) (i : Nat) : OkE up (headV up.length i) := el_of_mod h (headV_len _ _) fun j hj => by
  have t := h.get hj
  refine ⟨if j = i then 1 else 0, ?_⟩
  rw [headV_at hj]
  by_cases e : j = i
  · rw [if_pos e, Int.emod_eq_of_lt (by omega) (by omega)]
  · rw [if_neg e]; simp
theorem mul_head {up : List Int} {i j k : Nat} (hj : j < up.length) (hk : (k : Int) ≤ up.getD i 0) (g : OkR up) : (timesV up (k : Nat) (headV up.length i)).getD j 0 = if j = i then (k : Int) % up.getD i 0 else 0 := by
  rw [timesV_at hj (headV_len _ _), headV_at hj]
  by_cases e : j = i
  · subst e; simp
  · simp [e]
theorem times_nil {up : List Int} (g : OkR up) (i : Nat) (hi : i < up.length) : timesV up (up.getD i 0) (headV up.length i) = zeroV up := ext_getD (by rw [timesV_len up _ _ (headV_len _ _)]; simp [zeroV]) fun j hj => by
  have hj : j < up.length := by simpa [zeroV] using hj
  rw [zeroV_at, timesV_at hj (headV_len _ _), headV_at hj]
  by_cases e : j = i
  · subst e; simp
  · simp [e]
theorem putV_comm {rs x y : List Int} (h1 : x.length = rs.length) (h2 : y.length = rs.length) : putV rs x y = putV rs y x := ext_getD (by rw [putV_len h1 h2, putV_len h2 h1]) fun i hi => by
  rw [putV_len h2 h1] at hi
  rw [putV_at hi h1 h2, putV_at hi h2 h1, Int.add_comm]
theorem put_zero {lo v : List Int} (h : OkE lo v) : putV lo v (zeroV lo) = v := by
  have lz : (zeroV lo).length = lo.length := by simp [zeroV]
  refine ext_getD (by rw [putV_len h.len lz, h.len]) fun i hi => ?_
  rw [h.len] at hi
  rw [putV_at hi h.len lz, zeroV_at, Int.add_zero, el_mod h hi]
end Mir
namespace Mir
open PySem PySem.Spec PyProof.Rows L2
variable [Tn]
theorem dict_pairsE {prog : Program} {w : World} {A : Around} {E : Value → Shared → Prop} {s : Shared} {env : PySem.Env} {keys : List (Option Expr)} {values : List Expr} {pos : Pos} {pairs : List (Sem Value × Sem Value)} {Q : Value → Shared → Prop} (hu : (nestedKind prog w).room A)
    (hshape : (evalEachOpt keys env).zip ((evalEach values env).map fun v => do let x ← v; standAt pos; pure x) = pairs.map fun p => (some p.1, p.2)) (h0 : pairs ≠ []) (hlen : pairs.length ≤ 15)
    (h : wpAny (model prog w) A (evalPairs pairs) (fun vs s₁ => ∃ ps, CarriesH (nestedKind prog w) s₁.heap vs ps ∧ s₁.heap.DictOfH (nestedKind prog w) s.heap.objs.size [] ∧
      ∀ h' tk, h'.DictOfH (nestedKind prog w) s.heap.objs.size (storedAllH [] ps) → Heap.SameBut s.heap.objs.size s₁.heap h' → Q (.ref s.heap.objs.size) { s₁ with heap := h', toks := tk }) E
      { s with heap := s.heap.push { cls := .type "dict", data := .dict #[] } }) :
    wpAny (model prog w) A (eval (.Dict keys values pos) env) Q E s := by
  rw [arm_eval_Dict, hshape, dictDisplay_pairs pairs h0 (by omega)]
  exact wpAny_bind (wpAny_standAt (wpAny_bind (wpAny_subDictH (knd := nestedKind prog w) (Q := fun d s' => wpAny (model prog w) A (pure (Value.ref d)) Q E s') hu hlen
    (wpAny_mono h (fun vs s₁ h₁ => by obtain ⟨ps, hc, hm, hq⟩ := h₁; exact ⟨ps, hc, hm, fun h' tk a b => wpAny_pure (hq h' tk a b)⟩) fun _ _ e => e))))
/-- a dict of one pair -/
def dic1 (kd vd : D) : Res D := match keyT kd with
  | some _ => .ok (.dic [kd] [vd])
  | none => .bad
section
variable {X : Cx} {W : Wi} {k : Nat} {ke ve : Expr} {fk fv : Mir.Env → Res D} {pos : Pos}
theorem re_dic1 (hr : Room k X.A) (hk : RE X W .S ke fk) (hv : RE X W .S ve fv)
    (hsh : (evalEachOpt [some ke] X.env).zip ((evalEach [ve] X.env).map fun v => do let x ← v; standAt pos; pure x) = [(eval ke X.env, (do let x ← eval ve X.env; standAt pos; pure x : Sem Value))].map fun p => (some p.1, p.2) := by rfl) :
    RE X W (.O .flat) (.Dict [some ke] [ve] pos) (fun r => fk r >>= fun kd => fv r >>= fun vd => dic1 kd vd) := ⟨fun pins s σ H Q I ⟨H0, F0, fp, F, r, m, o⟩ => by
  have hn : (s.heap.objs.size == sysModules) = false := beq_eq_false_iff_ne.mpr (Ne.symm (Nat.ne_of_lt I.big))
  have hf : H s.heap.objs.size = none := I.hok.fresh (Nat.le_refl _)
  have hu : (nestedKind X.prog X.w).room X.A := by
    have := hr.un
    show X.A.units + 8 < cLine
    omega
  refine dict_pairsE hu hsh (by simp) (by show 1 ≤ 15; decide) ?_
  replace o : Out (gOf X) W σ F H (fun F' H' d => ∀ v, (Kd.O .flat).Rep (gOf X) H F' H' v d → Q v H') (fk r >>= fun kd => fv r >>= fun vd => dic1 kd vd) := o
  have I1 := I.laid (a := s.heap.objs.size) (o := .ext (isObj' s.heap.objs.size { cls := .type "dict", data := .dict #[] })) (h' := s.heap.push { cls := .type "dict", data := .dict #[] }) (t' := s.toks) (fun _ _ q => Heap.get?_push_of_some _ q) (Nat.le_refl _) (ext_ok (Heap.get?_push_size _ rfl))
  have g0 : Grow F H F (upd H s.heap.objs.size (.ext (isObj' s.heap.objs.size { cls := .type "dict", data := .dict #[] }))) := Grow.own m.sub hf
  have m1 := m.grow g0
  cases hfk : fk r with
  | bad => rw [hfk] at o; exact o.elim
  | er e =>
    rw [hfk] at o
    exact evalPairs_cons (thn (hk.run pins _ σ _ (fun _ _ => False) I1 ⟨H0, F0, fp, F, r, m1, by rw [hfk]; exact fun cls dd F' H' q => o cls dd F' H' (g0.trans q)⟩) fun _ _ ⟨_, _, _, _, f⟩ => f.elim)
  | ok kd =>
    rw [hfk] at o
    refine evalPairs_cons (thn (hk.run pins _ σ _ (fun y H2 => ∃ F2, Grow F (upd H s.heap.objs.size (.ext (isObj' s.heap.objs.size { cls := .type "dict", data := .dict #[] }))) F2 H2 ∧ Rep (gOf X) F2 y kd) I1 ⟨H0, F0, fp, F, r, m1, by rw [hfk]; exact fun F' H' q v kv => ⟨F', q, kv⟩⟩) fun uk s2 ⟨y, H2, I2, r2, F2, g2, ky⟩ => ?_)
    have m2 := m1.grow g2
    have gg := g0.trans g2
    refine wpAny_bind ?_
    cases hfv : fv r with
    | bad =>
      rw [ok_bind, hfv] at o; exact o.elim
    | er e =>
      rw [ok_bind, hfv] at o
      exact thn (hv.run pins _ σ _ (fun _ _ => False) I2 ⟨H0, F0, fp, F2, r, m2, by rw [hfv]; exact fun cls dd F' H' q => o cls dd F' H' (gg.trans q)⟩) fun _ _ ⟨_, _, _, _, f⟩ => f.elim
    | ok vd =>
      rw [ok_bind, hfv, ok_bind] at o
      refine thn (hv.run pins _ σ _ (fun z H3 => ∃ F3, Grow F2 H2 F3 H3 ∧ Rep (gOf X) F3 z vd) I2 ⟨H0, F0, fp, F2, r, m2, by rw [hfv]; exact fun F' H' q v kv => ⟨F', q, kv⟩⟩) fun uv s3 ⟨z, H3, I3, r3, F3, g3, kz⟩ => ?_
      refine wpAny_bind (wpAny_standAt (wpAny_pure (evalPairs_nil ?_)))
      have o' : Out (gOf X) W σ F H (fun F' H' d => ∀ v, (Kd.O .flat).Rep (gOf X) H F' H' v d → Q v H') (dic1 kd vd) := o
      unfold dic1 at o'
      split at o'
      · rename_i q hq
        obtain ⟨b, rfl, rb⟩ := key_ref (show RdD (gOf X) F2 H2 y kd from .inl ky) hq
        cases r2
        have rb3 := rb.mono g3.f
        have hp3 : H3 s.heap.objs.size = some (.ext (isObj' s.heap.objs.size { cls := .type "dict", data := .dict #[] })) := g3.h.at _ _ (g2.h.at _ _ upd_same)
        have dm := dr_of I3 g3.sub hp3 (dicO_nil rfl) (DR.nil (G := gOf X) (F := F3))
        have ki := key_is I3 g3.sub rb3 hq
        refine ⟨[(q, b, uv)], ⟨rfl, rfl, ki, trivial⟩, dm, fun h' tk hm hs => ?_⟩
        have e : storedAllH [] [(q, b, uv)] = [(q, b, uv)] := by simp [storedAllH, storedH, atKey]
        rw [e] at hm
        obtain ⟨ob, e1, e2⟩ := dicO_of hm (by rw [sizeLine_eq]; simp)
        have fr : F3 s.heap.objs.size = none := by
          cases z1 : F3 s.heap.objs.size with
          | none => rfl
          | some u =>
            rcases (g0.trans (g2.trans g3)).new _ u z1 with y | y
            · have := m.sub _ _ y
              rw [hf] at this; cases this
            · exfalso
              rcases g3.new _ u z1 with y2 | y2
              · rcases g2.new _ u y2 with y3 | y3
                · have := m.sub _ _ y3
                  rw [hf] at this; cases this
                · rw [upd_same] at y3; cases y3
              · have := g2.h.at _ _ (upd_same (H := H) (a := s.heap.objs.size) (o := .ext (isObj' s.heap.objs.size { cls := .type "dict", data := .dict #[] })))
                rw [this] at y2; cases y2
        have dr : DR (gOf X) F3 [(q, b, uv)] [z] [kd] [vd] := (DR.nil (G := gOf X) (F := F3)).cons r3 rb3 (keyT_some hq).2.1 kz
        refine ⟨.ref s.heap.objs.size, upd H3 s.heap.objs.size (.ext (isObj' s.heap.objs.size ob)), d_write (t' := tk) I3 (by rw [hp3]; exact True.intro) hs ⟨ob, e1⟩ (ext_ok e1), rfl, ?_⟩
        have g03 := g0.trans (g2.trans g3)
        refine o' F3 _ ⟨g03.h.upd hf, g03.f, fun c u y => ?_, fun c u y => ?_⟩ _ ⟨[_], Own.dr upd_same fr hn e2 dr, fun a ha => by rw [List.mem_singleton.mp ha]; exact hf⟩
        · have hc : c ≠ s.heap.objs.size := fun z => by rw [z, fr] at y; cases y
          rw [upd_ne hc]
          exact g03.sub _ _ y
        · exact g03.new c u y
      · exact o'.elim⟩
end
end Mir
namespace Mir
open PySem PySem.Spec PyProof.Rows L2
variable [Tn]
def isOw : Slot → Bool
  | .ow _ _ => true
  | _ => false
def soleO (i : Nat) (r : Env) : Bool := (r.set i .un).all fun s => !isOw s
theorem soleO_only {i : Nat} {r : Env} (h : soleO i r = true) {j : Nat} {s : Shape} {d : D} (e : r[j]? = some (.ow s d)) : j = i := by
  by_cases ne : i = j
  · exact ne.symm
  · unfold soleO at h
    rw [List.all_eq_true] at h
    have e2 : (r.set i .un)[j]? = some (.ow s d) := by rw [List.getElem?_set_ne ne]; exact e
    have := h _ (List.mem_of_getElem? e2)
    cases this
def wrapH (i : Nat) (x : Slot) : Oc → Oc
  | .nx r => .nx (r.set i x)
  | .rt d => .rt d
  | .er e r => .er e (r.set i x)
  | _ => .bad
def forH (i : Nat) (f : D → Env → Oc) (ds : List D) (r : Env) : Oc := match r[i]? with
  | some (.ow s o) => if soleO i r = true then wrapH i (.ow s o) (forD f ds (r.set i .un)) else .bad
  | _ => .bad
section
variable {G : GC} {J : L2.St → Prop} {H0 F0 F1 H1 : Hp} {fp : Nat → List Addr} {σ : L2.St} {r : Env}
/-- the own thing put by -/
theorem MS.put (m : MS G J H0 F0 fp F1 σ H1 r) {i : Nat} {v : V} (hv : σ[i]? = some (some v)) (so : soleO i r = true) : MS G (fun σ => σ[i]? = some (some v)) H1 F1 (fun _ => []) F1 σ H1 (r.set i .un) where
  jo := hv
  s0 := Stays.refl
  t0 := m.tt
  f0 := Same.refl _
  sub := m.sub
  new := fun _ _ e => .inl e
  len := by simpa using m.len
  sh := fun j d h => by
    rcases get_set_slot h with ⟨_, x, _⟩ | ⟨_, h⟩
    · cases x
    · exact m.sh j d h
  ow := fun j s d h => by
    rcases get_set_slot h with ⟨_, x, _⟩ | ⟨ne, h⟩
    · cases x
    · exact absurd (soleO_only so h).symm ne
  ap := fun j k s t d e _ h1 _ => by
    rcases get_set_slot h1 with ⟨_, x, _⟩ | ⟨ne, h⟩
    · cases x
    · exact absurd (soleO_only so h).symm ne
/-- and taken up again -/
theorem MS.take (hJ : ∀ σ, J σ) (m : MS G J H0 F0 fp F1 σ H1 r) {i : Nat} {v : V} {s : Shape} {o : D} (hv : σ[i]? = some (some v)) (ho : r[i]? = some (.ow s o)) {fp2 : Nat → List Addr} {F2 H2 : Hp} {σ2 : L2.St} {r2 : Env} (m2 : MS G (fun σ => σ[i]? = some (some v)) H1 F1 fp2 F2 σ2 H2 r2) :
    MS G J H0 F0 (fun j => if j = i then fp i else fp2 j) F2 σ2 H2 (r2.set i (.ow s o)) := by
  obtain ⟨⟨w, hw, ow⟩, fr⟩ := m.ow i s o ho
  rw [hv] at hw
  cases hw
  have th := fun a (ha : a ∈ fp i) => ow.there a ha
  have nf : ∀ a ∈ fp i, F2 a = none := fun a ha => by
    cases e : F2 a with
    | none => rfl
    | some u =>
      rcases m2.new a u e with z | z
      · have := (th a ha).1
        rw [this] at z; cases z
      · obtain ⟨u2, e2⟩ := (th a ha).2
        rw [z] at e2; cases e2
  have hi2 : ∀ a ∈ fp i, H1 a ≠ none := fun a ha z => by
    obtain ⟨u2, e2⟩ := (th a ha).2
    rw [z] at e2; cases e2
  refine ⟨hJ _, m.s0.trans m2.s0, m.f0.trans m2.f0, m2.sub, fun a u e => ?_, by simpa using m2.len, fun j d h => ?_, fun j t d h => ?_, fun j k t u d e ne h1 h2 => ?_, m.t0⟩
  · rcases m2.new a u e with z | z
    · exact m.new a u z
    · exact .inr (m.s0.free z)
  · rcases get_set_slot h with ⟨_, x, _⟩ | ⟨_, h⟩
    · cases x
    · exact m2.sh j d h
  · rcases get_set_slot h with ⟨e1, x, _⟩ | ⟨ne, h⟩
    · subst e1
      cases x
      refine ⟨⟨v, m2.jo, ?_⟩, ?_⟩
      · show Own G F2 H2 s v o (if i = i then fp i else fp2 i)
        rw [if_pos rfl]
        exact ow.keep ⟨fun a ha u e => m2.s0.at' a u e fun ps z => ow.nt a ha ps (z ▸ e), m2.f0, fun a ha _ => nf a ha⟩
      · show ∀ a ∈ (if i = i then fp i else fp2 i), H0 a = none
        rw [if_pos rfl]
        exact fr
    · have ne' : ¬ j = i := fun z => ne z.symm
      obtain ⟨⟨w, q1, q2⟩, q3⟩ := m2.ow j t d h
      refine ⟨⟨w, q1, ?_⟩, ?_⟩
      · show Own G F2 H2 t w d (if j = i then fp i else fp2 j)
        rw [if_neg ne']
        exact q2
      · show ∀ a ∈ (if j = i then fp i else fp2 j), H0 a = none
        rw [if_neg ne']
        exact fun a ha => m.s0.free (q3 a ha)
  · show ∀ a ∈ (if j = i then fp i else fp2 j), a ∉ (if k = i then fp i else fp2 k)
    rcases get_set_slot h1 with ⟨e1, _, _⟩ | ⟨n1, h1⟩
    · subst e1
      rcases get_set_slot h2 with ⟨e2, _, _⟩ | ⟨n2, h2⟩
      · exact absurd e2 ne
      · have n2' : ¬ k = i := fun z => n2 z.symm
        rw [if_pos rfl, if_neg n2']
        exact fun a ha hb => hi2 a ha ((m2.ow k u e h2).2 a hb)
    · have n1' : ¬ j = i := fun z => n1 z.symm
      rw [if_neg n1']
      rcases get_set_slot h2 with ⟨e2, _, _⟩ | ⟨n2, h2⟩
      · subst e2
        rw [if_pos rfl]
        exact fun a ha hb => hi2 a hb ((m2.ow j t d h1).2 a ha)
      · have n2' : ¬ k = i := fun z => n2 z.symm
        rw [if_neg n2']
        exact m2.ap j k t u d e ne h1 h2
end
section
variable {X : Cx} {W : Wi} {k : Kd}
abbrev Wi.pin (W : Wi) (i : Nat) (v : V) : Wi := ⟨W.w, fun σ => σ[i]? = some (some v)⟩
theorem out_hold {H0 F0 F1 H1 : Hp} {fp : Nat → List Addr} {σ : L2.St} {r : Env} (hJ : ∀ σ, W.J σ) (m : MS (gOf X) W.J H0 F0 fp F1 σ H1 r) {i : Nat} {v : V} {s : Shape} {o : D} (hv : σ[i]? = some (some v)) (ho : r[i]? = some (.ow s o)) {D : Ends} {F : Hp} (sF : Same F1 F) : ∀ oc : Oc,
    OutS (gOf X) W k H0 F0 F D (wrapH i (.ow s o) oc) → OutS (gOf X) (W.pin i v) k H1 F1 F D oc
  | .nx r', h => fun fp' F' σ' H' q m2 => h _ F' σ' H' q (m.take hJ hv ho m2)
  | .rt d, h => fun F' H' w q g kr => h F' H' w q (m.g0.trans g) (kr.later m.s0.fre)
  | .er e r', h => fun fp' F' σ' H' cls dd q m2 ex => h _ F' σ' H' cls dd q (m.take hJ hv ho m2) ex
  | .bk _, h => h.elim
  | .ct _, h => h.elim
  | .bad, h => h.elim
theorem rs_forH (i : Nat) {tg iter : Expr} {body : List Stmt} {pos : Pos} {f : Env → Res (List D)} {g : D → Env → Res Env} {gb : Env → Oc} (hJ : ∀ σ, W.J σ) (hp : PassesOwn (model X.prog X.w) X.A X.env X.xe) (hc : X.calm = true) (hi : RI X W false tg iter f)
    (hg : ∀ v, RG X (W.pin i v).J tg g) (hb : ∀ v, RSs X (W.pin i v) k body gb)
    (hs : ∀ x, foldedSetIterable iter X.env x = pure x := by intro _; rfl) : RS X W k (.For tg iter body [] pos) (fun r => lift (f r) r fun ds => forH i (fun d r => (into (g d r)).seq gb) ds r) := by
  have hg' : PG X tg (fun w σ H Q => ∃ v, tGd (gOf X) (W.pin i v).J g w σ H Q) := ⟨fun pins s σ H w u Q I rw' ⟨v, h⟩ => (hg v).run pins s σ H w u Q I rw' h⟩
  have hb' : PSs X body (fun D σ H => ∃ v, tS (gOf X) (W.pin i v) k gb D σ H) := ⟨fun pins s σ H D I ⟨v, h⟩ => (hb v).run pins s σ H D I h⟩
  refine (ps_for hp hc hi hg' hb' hs).imp fun D σ H ⟨H0, F0, fp, F, r, m, o⟩ => ⟨H0, F0, fp, F, r, m, o.lift m fun F1 H1 ds gr o1 J w => ?_⟩
  rw [if_neg (by decide)] at w
  have m1 := m.grow gr
  unfold forH at o1
  split at o1
  case h_2 => exact o1.elim
  rename_i s ob ho
  split at o1
  case isFalse => exact o1.elim
  rename_i so
  obtain ⟨⟨v, hv, _⟩, _⟩ := m1.ow i s ob ho
  have mi := m1.put hv so
  have oi : OutS (gOf X) (W.pin i v) k H1 F1 F1 D (forD (fun d r => (into (g d r)).seq gb) ds (r.set i .un)) := out_hold hJ m1 hv ho (Same.refl _) _ o1
  refine ⟨fun n j σ H => j = ds.length - n ∧ n ≤ ds.length ∧ ∃ fp F r, Same F1 F ∧ MS (gOf X) (W.pin i v).J H1 F1 fp F σ H r ∧ OutS (gOf X) (W.pin i v) k H1 F1 F D (forD (fun d r => (into (g d r)).seq gb) (ds.drop n) r),
    ⟨ds.length, by simp, Nat.zero_le _, _, F1, _, Same.refl _, mi, by simpa using oi⟩, ?_⟩
  rintro n j σ H ⟨rfl, hi, fp, F, r, sF, m, o⟩
  by_cases hlt : n < ds.length
  · refine .inr ⟨w.goes n H hlt m.s0.nT, fun σ' H' => n + 1 ≤ ds.length ∧ ∃ fp F r, Same F1 F ∧ MS (gOf X) (W.pin i v).J H1 F1 fp F σ' H' r ∧ OutS (gOf X) (W.pin i v) k H1 F1 F D (forD (fun d r => (into (g d r)).seq gb) (ds.drop (n + 1)) r),
      fun σ' H' ⟨h1, h2⟩ => ⟨ds.length - (n + 1), by omega, rfl, h1, h2⟩, fun x H' y => ?_⟩
    obtain ⟨F3, d, g3, ed, rx⟩ := w.yields n F H x H' hlt sF m.sub m.s0.nT y
    have e : ds.drop n = d :: ds.drop (n + 1) := by
      rw [List.drop_eq_getElem_cons hlt]
      rw [List.getElem?_eq_getElem hlt] at ed
      rw [Option.some.inj ed]
    rw [e, forD_cons] at o
    cases e1 : g d r with
    | ok r1 =>
      rw [e1] at o
      refine ⟨v, H1, F1, fp, F3, r, d, m.grow g3, rx, r1, e1, fun fp' σ' m' => ⟨v, H1, F1, fp', F3, r1, m', ?_⟩⟩
      have o' : OutS (gOf X) (W.pin i v) k H1 F1 F3 D _ := OutS.same o g3.f
      simp only [into_ok, nx_seq] at o'
      cases e2 : gb r1 with
      | nx r2 => rw [e2] at o'; exact fun fp2 F2 σ2 H2 q m2 => ⟨hlt, fp2, F2, r2, (sF.trans g3.f).trans q, m2, o'.same q⟩
      | ct r2 => rw [e2] at o'; exact fun fp2 F2 σ2 H2 q m2 => ⟨hlt, fp2, F2, r2, (sF.trans g3.f).trans q, m2, o'.same q⟩
      | bk r2 => rw [e2] at o'; exact o'
      | rt d2 => rw [e2] at o'; exact o'
      | er x2 r2 => rw [e2] at o'; exact o'
      | bad => rw [e2] at o'; exact o'
    | er x2 => rw [e1] at o; exact o.elim
    | bad => rw [e1] at o; exact o.elim
  · have e : n = ds.length := by omega
    subst e
    rw [List.drop_length] at o
    exact .inl ⟨w.stops H m.s0.nT, o fp F σ H (Same.refl _) m⟩
end
end Mir
namespace Mir
open PySem PySem.Spec PyProof.Rows L2
variable [Tn]
section
variable {G : GC} {F H : Hp}
theorem OwnAll.getAt {f : Nat → Shape} : ∀ {n0 : Nat} {ws : List V} {vs : List D} {A : List Addr}, OwnAll G F H f n0 ws vs A → ∀ (n : Nat) {d : D}, vs[n]? = some d → ∃ w B, ws[n]? = some w ∧ Own G F H (f (n0 + n)) w d B
  | _, _, _, _, .nil, n, d, h => by simp at h
  | n0, _, _, _, .cons r t x, 0, d, h => by
    simp at h
    subst h
    exact ⟨_, _, rfl, r⟩
  | n0, _, _, _, .cons r t x, n + 1, d, h => by
    obtain ⟨w, B, h1, h2⟩ := t.getAt n (d := d) (by simpa using h)
    rw [show n0 + 1 + n = n0 + (n + 1) by omega] at h2
    exact ⟨w, B, by simpa using h1, h2⟩
end
def Shape.rdy : Shape → Bool
  | .sh => true
  | .flat => true
  | _ => false
/-- a part of what the i-th name bears -/
def partG (i n : Nat) (r : Env) : Res D := match r[i]? with
  | some (.sh (.tup ds)) => (match ds[n]? with
    | some d => .ok d
    | none => .bad)
  | some (.ow s (.tup ds)) => (match ds[n]? with
    | some d => if (s.kid n).rdy = true then .ok d else .bad
    | none => .bad)
  | _ => .bad
theorem atI_of {α : Type} {xs : List α} {n : Nat} {x : α} (h : xs[n]? = some x) : atI xs (n : Int) = some x := by
  have l := (List.getElem?_eq_some_iff.mp h).1
  rw [atI_int xs (n : Int) (by omega) (by omega), Int.toNat_natCast]
  exact h
section
variable {X : Cx} {W : Wi}
theorem re_part (i n : Nat) {x : Str} {ps pos q : Pos} {j : Nat} (hN : X.N[i]? = some x := by rfl) (hv : Vis X.env.scope x := by first | exact Or.inl rfl | exact Or.inr (Or.inl rfl) | exact Or.inr (Or.inr rfl)) (hd : (x == ("__debug__" : Str)) = false := by decide)
    (hcd : (x == ("__classdict__" : Str)) = false := by decide) (hs : PlainIx (.Constant (.int (n : Nat)) j q) := by intro _ _; rfl) : RE X W .R (.Subscript (.Name x ps) (.Constant (.int (n : Nat)) j q) pos) (partG i n) :=
  (pe_ix ix_seq (pe_var hN hv hd hcd) pe_int hs).imp fun σ H Q ⟨H0, F0, fp, F, r, m, o⟩ => by
    unfold partG at o
    split at o
    · rename_i ds e
      split at o
      · rename_i d hd
        obtain ⟨v, h1, h2⟩ := m.getS (i := i) (d := .tup ds) (by unfold getS; rw [e])
        obtain ⟨a, vs, rfl, ht, rr⟩ := (show RdD (gOf X) F H v (.tup ds) from .inl h2).tup m.sub
        obtain ⟨w, hw, rw⟩ := atI_rep rr (atI_of hd)
        exact ⟨_, h1, .inr (.inl ⟨a, vs, _, w, rfl, rfl, ht, hw, o F H (Grow.refl m.sub) w (.inl rw)⟩)⟩
      · exact o.elim
    · rename_i s ds e
      split at o
      · rename_i d hd
        split at o
        · rename_i hr
          obtain ⟨⟨v, h1, ow⟩, hA⟩ := m.ow i _ _ e
          generalize fp i = A at ow
          cases ow with
          | sh h2 =>
            obtain ⟨a, vs, rfl, ht, rr⟩ := (show RdD (gOf X) F H v (.tup ds) from .inl h2).tup m.sub
            obtain ⟨w, hw, rw⟩ := atI_rep rr (atI_of hd)
            exact ⟨_, h1, .inr (.inl ⟨a, vs, _, w, rfl, rfl, ht, hw, o F H (Grow.refl m.sub) w (.inl rw)⟩)⟩
          | opt h2 _ =>
            obtain ⟨a, vs, rfl, ht, rr⟩ := (show RdD (gOf X) F H v (.tup ds) from .inl h2).tup m.sub
            obtain ⟨w, hw, rw⟩ := atI_rep rr (atI_of hd)
            exact ⟨_, h1, .inr (.inl ⟨a, vs, _, w, rfl, rfl, ht, hw, o F H (Grow.refl m.sub) w (.inl rw)⟩)⟩
          | @tup _ a ws _ A' so ha fa oa na =>
            obtain ⟨w, B, g1, g2⟩ := oa.getAt n hd
            rw [Nat.zero_add] at g2
            refine ⟨_, h1, .inr (.inl ⟨a, ws, _, w, rfl, rfl, .of ha, atI_of g1, o F H (Grow.refl m.sub) w ?_⟩)⟩
            cases z : s.kid n with
            | sh =>
              rw [z] at g2
              cases g2 with
              | sh h => exact .inl h
              | lst h _ _ _ _ => cases h
              | tup h _ _ _ _ => cases h
              | dic h _ _ _ _ _ _ _ _ _ => cases h
              | obj h _ _ _ _ _ => cases h
            | flat =>
              rw [z] at g2
              exact .inr ⟨B, g2⟩
            | parts l => rw [z] at hr; cases hr
            | opts l => rw [z] at hr; cases hr
        · exact o.elim
      · exact o.elim
    · exact o.elim
end
def slotS : Shape → D → Slot
  | .sh, d => .sh d
  | s, d => .ow s d
def nameO (i : Nat) (s : Shape) (d : D) (r : Env) : Res Env := .ok (r.set i (slotS s d))
@[simp] theorem nameO_sh (i : Nat) (d : D) (r : Env) : nameO i .sh d r = .ok (r.set i (.sh d)) := rfl
@[simp] theorem nameO_flat (i : Nat) (d : D) (r : Env) : nameO i .flat d r = .ok (r.set i (.ow .flat d)) := rfl
end Mir
namespace Mir
open PySem PySem.Spec PyProof.Rows L2
variable [Tn]
def IsTI (h : Heap) (v : Value) (ns : List Int) : Prop := ∃ a o items n, v = Value.ref a ∧ h.get? a = some o ∧ o.cls = .type "tuple" ∧ o.data = .seq items n ∧ IntsAre items.toList ns
theorem IsTI.keeps {h h' : Heap} {v : Value} {ns : List Int} (p : IsTI h v ns) (k : ∀ b o, h.get? b = some o → o.cls = .type "tuple" → h'.get? b = some o) : IsTI h' v ns := by
  obtain ⟨a, o, t, n, e, ho, hc, hd, hi⟩ := p
  exact ⟨a, o, t, n, e, k _ _ ho hc, hc, hd, hi⟩
section
variable {prog : Program} {w : World} {A : Around} {s : Shared}
theorem lexK : ∀ {us vs : List Value} {ns ms : List Int}, IntsAre us ns → IntsAre vs ms → ∀ (i : Nat), PySem.W.KatLex prog w A true (decide (ns.length < ms.length)) (fun r s' => s' = s ∧ r = HT.lexLt ns ms) (us.zip vs) i s
  | _, _, _, _, .nil, .nil, i => PySem.W.kat_nil ⟨rfl, rfl⟩
  | _, _, _, _, .nil, .cons b t h, i => PySem.W.kat_nil ⟨rfl, by rw [HT.lexLt_nil_cons]; exact decide_eq_true (by simp)⟩
  | _, _, _, _, .cons a t h, .nil, i => PySem.W.kat_nil ⟨rfl, by rw [HT.lexLt_cons_nil]; exact decide_eq_false (by simp)⟩
  | _, _, _, _, .cons a t h (ns := ns), .cons b u h2 (ns := ms), i => by
    have ih := lexK h h2 (i + 1)
    rw [List.zip_cons_cons]
    refine PySem.W.kat_cons (SeqAt.EqAt.int_int a t b u prog w _ _ ?_)
    refine PySem.W.kat_go (fun e => ?_) (fun e => ?_)
    · have ex : a = b := by simpa using e
      refine PySem.W.kat_yes ?_
      rw [HT.lexLt_cons, if_pos ex]
      have el : decide ((a :: ns).length < (b :: ms).length) = decide (ns.length < ms.length) := by simp
      rw [el]
      exact ih
    · have ex : ¬ a = b := by simpa using e
      refine PySem.W.kat_no (_root_.TS.oneLt_ints _ ⟨rfl, ?_⟩)
      rw [HT.lexLt_cons, if_neg ex]
theorem ints_len : ∀ {us : List Value} {ns : List Int}, IntsAre us ns → us.length = ns.length
  | _, _, .nil => rfl
  | _, _, .cons _ _ h => by rw [List.length_cons, List.length_cons, ints_len h]
theorem ti_cmp {vs : List Value} {k : Value → List Int} (hp : ∀ v ∈ vs, IsTI s.heap v (k v)) : SrtO.Cmp prog w A s (tuples' true) (fun p => p.1 ∈ vs) (SrtO.lt2 fun v u => HT.lexLt (k v) (k u)) := by
  intro p q hm hm'
  have h1 := hp _ hm
  have h2 := hp _ hm'
  show wpAny (model prog w) A (keyLt' (tuples' true) p.1 q.1) (fun r s' => s' = s ∧ r = HT.lexLt (k p.1) (k q.1)) (fun _ _ => False) s
  generalize k p.1 = ns at h1 ⊢
  generalize k q.1 = ms at h2 ⊢
  obtain ⟨a, o, t, n, e, ho, hc, hd, hi⟩ := h1
  obtain ⟨a', o', t', n', e', ho', hc', hd', hi'⟩ := h2
  rw [e, e']
  refine PySem.W.kat_lt ho hd ho' hd' ?_
  have l1 := ints_len hi
  have l2 := ints_len hi'
  rw [Array.length_toList] at l1 l2
  rw [l1, l2]
  exact lexK hi hi' 0
theorem ti_firsts {h : Heap} : ∀ {vs : List Value} {k : Value → List Int}, (∀ v ∈ vs, IsTI h v (k v)) → (∀ v ∈ vs, k v ≠ []) → ∃ fs : List Value, PySem.W.KatTups h vs fs ∧ fs.length = vs.length ∧ ∀ f ∈ fs, ∃ x t, f = Value.int x t
  | [], _, _, _ => ⟨[], PySem.W.KatTups.nil, rfl, fun _ hm => by simp at hm⟩
  | v :: vs, k, hp, hne => by
    obtain ⟨fs, h1, h2, h3⟩ := ti_firsts (vs := vs) (k := k) (fun v' hm => hp v' (List.mem_cons_of_mem _ hm)) fun v' hm => hne v' (List.mem_cons_of_mem _ hm)
    obtain ⟨a, o, items, n, e, ho, hc, hd, hi⟩ := hp v (List.mem_cons_self ..)
    have hk := hne v (List.mem_cons_self ..)
    subst e
    obtain ⟨its⟩ := items
    change IntsAre its _ at hi
    generalize k (Value.ref a) = ns at hi hk
    cases hi with
    | nil => exact absurd rfl hk
    | cons x t hr =>
      refine ⟨.int x t :: fs, PySem.W.KatTups.cons ho hc hd rfl h1, by rw [List.length_cons, List.length_cons, h2], fun f hm => ?_⟩
      rcases List.mem_cons.mp hm with rfl | hm
      · exact ⟨x, t, rfl⟩
      · exact h3 f hm
theorem ti_sortable {a : Addr} {vs : List Value} {k : Value → List Int} (h0 : 0 < vs.length) (hp : ∀ v ∈ vs, IsTI s.heap v (k v)) (hne : ∀ v ∈ vs, k v ≠ []) (ha : ∀ o, s.heap.get? a = some o → o.cls ≠ .type "tuple") : SrtO.SortableO prog w A s a vs fun v u => HT.lexLt (k v) (k u) := by
  intro h' keep
  have hp' : ∀ v ∈ vs, IsTI h' v (k v) := fun v hm => (hp v hm).keeps fun b o e c => keep b o (fun z => by subst z; exact ha o e c) e
  obtain ⟨fs, h1, h2, h3⟩ := ti_firsts hp' hne
  refine ⟨tuples' true, fun Q E hq => ?_, ti_cmp hp'⟩
  refine PySem.W.kat_kind (T := .type "int") h1 (by omega) (fun f hm => ?_) (by rfl) ?_
  · obtain ⟨x, t, rfl⟩ := h3 f hm
    exact PySem.W.Looks.now
  · have e : (Value.type "int" != Value.type "tuple") = true := by first | decide +kernel | rfl | decide
    rw [e]
    exact hq
end
section
variable {X : Cx}
theorem map_int_inj : ∀ {ns ms : List Int}, ns.map V.int = ms.map V.int → ns = ms
  | [], [], _ => rfl
  | [], _ :: _, h => by cases h
  | _ :: _, [], h => by cases h
  | n :: ns, m :: ms, h => by
    rw [List.map_cons, List.map_cons] at h
    injection h with h1 h2
    cases h1
    rw [map_int_inj h2]
def rSortK (X : Cx) : List V → Hp → VK → Prop := fun vs H Q => ∃ (p : Addr) (o : Obj) (xs : List EN) (ls : List (List Int)), vs = [.ref p] ∧ H p = some (.ext (isObj' p o)) ∧ (p == sysModules) = false ∧ DicO (gOf X) o xs ∧ xs.length ≤ sizeLine ∧
  xs.length = ls.length ∧ (∀ (i : Nat) (x : EN) (ns : List Int), xs[i]? = some x → ls[i]? = some ns → SqT X.K H x.2.1 (ns.map V.int)) ∧ (2 ≤ ls.length → ∀ ns ∈ ls, ns ≠ []) ∧
  ∀ (k : Addr → List Int) (ts : List Addr) (l : Addr), xs.map (fun x => k x.2.1) = ls → ts.Perm (xs.map (·.2.1)) → ts.Pairwise (fun p q => HT.lexLt (k q) (k p) = false) → H l = none → Q (.ref l) (upd H l (.lst (ts.map V.ref)))
theorem call_sortedK (hcalm : X.calm = true) : CallR X (.builtin "sorted") (rSortK X) := by
  intro pins s σ H xs us Q I r q
  obtain ⟨p, o, es, ls, rfl, hp, hn, dd, hz, hls, hsq, hnl, q⟩ := q
  obtain ⟨u, rfl, rx⟩ := vals1 r
  cases rx
  obtain ⟨k, hkl⟩ : ∃ k : Addr → List Int, ∀ (i : Nat) (x : EN) (ns : List Int), es[i]? = some x → ls[i]? = some ns → k x.2.1 = ns := by
    classical
    refine ⟨fun a => if h : ∃ ns : List Int, SqT X.K H a (ns.map V.int) then Classical.choose h else [], fun i x ns h1 h2 => ?_⟩
    have h : ∃ ns : List Int, SqT X.K H x.2.1 (ns.map V.int) := ⟨ns, hsq i x ns h1 h2⟩
    simp only [dif_pos h]
    have e := I.tuple_inj (Classical.choose_spec h) (hsq i x ns h1 h2)
    exact map_int_inj e
  have hkm : es.map (fun x => k x.2.1) = ls := by
    refine List.ext_getElem? fun i => ?_
    rw [List.getElem?_map]
    cases e : es[i]? with
    | none =>
      have : es.length ≤ i := List.getElem?_eq_none_iff.mp e
      rw [List.getElem?_eq_none (by omega)]
      rfl
    | some x =>
      have hi : i < ls.length := by
        have := (List.getElem?_eq_some_iff.mp e).1
        omega
      have e2 : ls[i]? = some ls[i] := List.getElem?_eq_getElem hi
      rw [e2, Option.map_some, hkl i x _ e e2]
  have hkk : ∀ x ∈ es, SqT X.K H x.2.1 ((k x.2.1).map V.int) := fun x hx => by
    obtain ⟨i, hi⟩ := List.getElem?_of_mem hx
    have hl : i < ls.length := by
      have := (List.getElem?_eq_some_iff.mp hi).1
      omega
    have e2 : ls[i]? = some ls[i] := List.getElem?_eq_getElem hl
    rw [hkl i x _ hi e2]
    exact hsq i x _ hi e2
  have hne : 2 ≤ es.length → ∀ x ∈ es, k x.2.1 ≠ [] := fun h x hx => by
    rw [hls] at h
    refine hnl h _ ?_
    rw [← hkm]
    exact List.mem_map.mpr ⟨x, hx, rfl⟩
  obtain ⟨ar, ep, hd, he⟩ := dd.dat
  have hraw := ext_raw I hp dd.ex hd
  have hsz : ar.size = es.length := by
    have := congrArg List.length he
    rw [List.length_map, Array.length_toList] at this
    exact this
  refine Calls.call_function_entry PyProof.Rows.kind_sorted PyProof.Rows.plain_sorted PyProof.Rows.entry_sorted (PyProof.Rows.args_sorted1 _) ?_
  unfold Builtin.«sorted»
  refine wpAny_bind (m := checkCount "sorted" 1 1 _) (wpAny_pure ?_)
  refine wpAny_bind (PySem.W.kdu_collect (A := X.A.in1) (KdlSrc.rawDict hn) (I.ok.hd hcalm) hraw (by rw [hsz]; exact hz) fun h' tk acc hk hacc => ?_)
  have ea : acc.toList = (es.map (·.2.1)).map Value.ref := by
    refine List.ext_getElem? fun j => ?_
    rw [Array.getElem?_toList, List.getElem?_map, List.getElem?_map]
    cases e : acc[j]? with
    | none =>
      have hj : acc.size ≤ j := Array.getElem?_eq_none_iff.mp e
      rw [hacc.1, hsz] at hj
      rw [List.getElem?_eq_none hj]
      rfl
    | some v =>
      obtain ⟨hi, rfl⟩ := hacc.2 j v e
      obtain ⟨x, e1, e2, _⟩ := ent_at he hi
      rw [e1, e2]
      rfl
  have I1 : Inv X pins σ H { s with heap := h', toks := tk } := I.kept hk
  have al : acc.toList.length = es.length := by rw [ea, List.length_map, List.length_map]
  refine wpAny_bind (wpAny_newList ?_ (by rw [al]; exact hz))
  have hoL : (h'.push (seqObj "list" acc.toList.toArray 0)).get? h'.objs.size = some (seqObj "list" acc.toList.toArray 0) := Heap.get?_push_size _ rfl
  show wpAny _ _ _ _ _ { s with heap := h'.push (seqObj "list" acc.toList.toArray 0), toks := tk }
  have hti : ∀ v ∈ acc.toList, IsTI (h'.push (seqObj "list" acc.toList.toArray 0)) v (k (adO v)) := fun v hv => by
    rw [ea] at hv
    obtain ⟨t, ht, rfl⟩ := List.mem_map.mp hv
    obtain ⟨x, hx, rfl⟩ := List.mem_map.mp ht
    obtain ⟨its, rv, ⟨ob, hob, hc, n, hdt⟩, _⟩ := I1.tuple (hkk x hx)
    exact ⟨x.2.1, ob, its.toArray, n, rfl, Heap.get?_push_of_some _ hob, hc, hdt, by show IntsAre its (k x.2.1); exact Vals.ints rv⟩
  have hnn : 2 ≤ acc.toList.length → ∀ v ∈ acc.toList, k (adO v) ≠ [] := fun h2 v hv => by
    rw [al] at h2
    rw [ea] at hv
    obtain ⟨t, ht, rfl⟩ := List.mem_map.mp hv
    obtain ⟨x, hx, rfl⟩ := List.mem_map.mp ht
    exact hne h2 x hx
  refine wpAny_bind (wpAny_holding (wpAny_call_entry PyProof.Rows.slot_list_sort ⟨_, hoL, rfl⟩ PyProof.Rows.entry_list_sort
    (SrtO.list_sort_ord (s := { s with heap := h'.push (seqObj "list" acc.toList.toArray 0), toks := tk }) (NtL.swo_lexL fun u => k (adO u)) hoL (by rw [al]; exact hz)
      (fun h2 => ti_sortable (s := { s with heap := h'.push (seqObj "list" acc.toList.toArray 0), toks := tk }) (by omega) hti (hnn h2) fun o e => by
        rw [hoL] at e
        cases e
        intro c
        exact absurd (Value.type.inj c) (by decide)) fun out h1 h2 => ⟨_, rfl, ?_⟩) (PyProof.Rows.args_list_sort _)))
  obtain ⟨e', he'⟩ := PyProof.Rows.sortedHeap_at (vs := acc.toList) (out := out.toArray) hoL
  have eo : out = (out.map adO).map Value.ref := ref_map fun u hm => by
    have hm' : u ∈ acc.toList := h2.perm.mem_iff.mp hm
    rw [ea] at hm'
    obtain ⟨t, _, e⟩ := List.mem_map.mp hm'
    exact ⟨t, e.symm⟩
  have hpm : (out.map adO).Perm (es.map (·.2.1)) := by
    have p1 := h2.perm.map adO
    rw [ea, ad_map] at p1
    exact p1
  have hs : (out.map adO).Pairwise (fun p q => HT.lexLt (k q) (k p) = false) := List.pairwise_map.mpr (h1.imp fun {x y} z => z)
  have hlen : ((out.map adO).map V.ref).length ≤ sizeLine := by
    rw [List.length_map, hpm.length_eq, List.length_map]
    exact hz
  have rvo : Vals ((out.map adO).map V.ref) out := by
    have z := of_nts (out.map adO)
    rw [← eo] at z
    exact z
  refine wpAny_pure ⟨_, rfl, .ref h'.objs.size, upd H h'.objs.size (.lst ((out.map adO).map V.ref)), I1.laid (t' := tk) (fun b u e => ?_) (Nat.le_refl _)
    (show ObjOk X.prog X.w _ _ _ (.lst ((out.map adO).map V.ref)) from ⟨hlen, out, e', rvo, he'⟩), rfl, q k _ _ hkm hpm hs (I1.hok.fresh (Nat.le_refl _))⟩
  have hb : b < h'.objs.size := Heap.lt_size e
  rw [PyProof.Rows.sortedHeap_old (Nat.ne_of_lt hb) (by rw [size_push']; exact Nat.lt_succ_of_lt hb)]
  exact Heap.get?_push_of_some _ e
end
def intsD : List D → Option (List Int)
  | [] => some []
  | .int i :: ds => (intsD ds).map (i :: ·)
  | _ :: _ => none
def keyL : D → Option (List Int)
  | .tup ds => intsD ds
  | _ => none
def keysL : List D → Option (List (List Int))
  | [] => some []
  | d :: ds => match keyL d, keysL ds with
    | some x, some xs => some (x :: xs)
    | _, _ => none
def insL (x : List Int) : List (List Int) → List (List Int)
  | [] => [x]
  | y :: ys => if HT.lexLt y x = true then y :: insL x ys else x :: y :: ys
def isort : List (List Int) → List (List Int)
  | [] => []
  | x :: xs => insL x (isort xs)
theorem intsD_some : ∀ {ds : List D} {ns : List Int}, intsD ds = some ns → ds = ns.map .int
  | [], ns, h => by cases h; rfl
  | .int i :: ds, ns, h => by
    unfold intsD at h
    cases e : intsD ds with
    | none => rw [e] at h; cases h
    | some ms =>
      rw [e] at h
      cases h
      rw [List.map_cons, ← intsD_some e]
  | .non :: _, _, h => by cases h
  | .bl _ :: _, _, h => by cases h
  | .str _ :: _, _, h => by cases h
  | .tup _ :: _, _, h => by cases h
  | .lst _ :: _, _, h => by cases h
  | .scr _ :: _, _, h => by cases h
  | .dic _ _ :: _, _, h => by cases h
  | .obj _ _ :: _, _, h => by cases h
  | .exc _ _ :: _, _, h => by cases h
  | .cls _ :: _, _, h => by cases h
  | .ty _ :: _, _, h => by cases h
theorem keyL_some {d : D} {ns : List Int} (h : keyL d = some ns) : d = .tup (ns.map .int) := by
  cases d with
  | tup ds => rw [intsD_some h]
  | _ => cases h
theorem keysL_some : ∀ {ks : List D} {ls : List (List Int)}, keysL ks = some ls → ks = ls.map fun ns => .tup (ns.map .int)
  | [], ls, h => by cases h; rfl
  | d :: ds, ls, h => by
    unfold keysL at h
    cases e1 : keyL d with
    | none => rw [e1] at h; cases h
    | some x =>
      cases e2 : keysL ds with
      | none => rw [e1, e2] at h; cases h
      | some xs =>
        rw [e1, e2] at h
        cases h
        rw [List.map_cons, ← keysL_some e2, ← keyL_some e1]
theorem insL_perm (x : List Int) : ∀ ys, (insL x ys).Perm (x :: ys)
  | [] => List.Perm.refl _
  | y :: ys => by
    unfold insL
    split
    · exact ((insL_perm x ys).cons y).trans (List.Perm.swap _ _ _)
    · exact List.Perm.refl _
theorem isort_perm : ∀ xs, (isort xs).Perm xs
  | [] => List.Perm.refl _
  | x :: xs => (insL_perm x (isort xs)).trans ((isort_perm xs).cons x)
theorem lex_tot : ∀ a b : List Int, HT.lexLt a b = false → HT.lexLt b a = false → a = b
  | [], [], _, _ => rfl
  | [], _ :: _, h, _ => by cases h
  | _ :: _, [], _, h => by cases h
  | x :: xs, y :: ys, h1, h2 => by
    rw [HT.lexLt_cons] at h1 h2
    by_cases e : x = y
    · subst e
      rw [if_pos rfl] at h1 h2
      rw [lex_tot xs ys h1 h2]
    · rw [if_neg e] at h1
      rw [if_neg (fun z => e z.symm)] at h2
      have a := of_decide_eq_false h1
      have b := of_decide_eq_false h2
      omega
abbrev upL : List (List Int) → Prop := List.Pairwise fun p q => HT.lexLt q p = false
theorem insL_up (x : List Int) : ∀ {ys}, upL ys → upL (insL x ys)
  | [], _ => List.pairwise_singleton _ _
  | y :: ys, h => by
    obtain ⟨h1, h2⟩ := List.pairwise_cons.mp h
    unfold insL
    split
    · rename_i hl
      refine List.pairwise_cons.mpr ⟨fun z hz => ?_, insL_up x h2⟩
      rcases List.mem_cons.mp ((insL_perm x ys).mem_iff.mp hz) with rfl | hz
      · exact NtL.lex_asym _ _ hl
      · exact h1 z hz
    · rename_i hl
      have hl : HT.lexLt y x = false := by simpa using hl
      refine List.pairwise_cons.mpr ⟨fun z hz => ?_, h⟩
      rcases List.mem_cons.mp hz with rfl | hz
      · exact hl
      · exact NtL.lex_tr _ _ _ hl (h1 z hz)
theorem isort_up : ∀ xs, upL (isort xs)
  | [] => List.Pairwise.nil
  | x :: xs => insL_up x (isort_up xs)
theorem up_uniq : ∀ {xs ys : List (List Int)}, upL xs → upL ys → xs.Perm ys → xs = ys
  | [], ys, _, _, p => (List.nil_perm.mp p).symm
  | x :: xs, [], _, _, p => absurd (List.perm_nil.mp p) (by simp)
  | x :: xs, y :: ys, h1, h2, p => by
    obtain ⟨a1, a2⟩ := List.pairwise_cons.mp h1
    obtain ⟨b1, b2⟩ := List.pairwise_cons.mp h2
    have e : x = y := by
      rcases List.mem_cons.mp (p.mem_iff.mp (List.mem_cons_self (a := x) (l := xs))) with e | hx
      · exact e
      · rcases List.mem_cons.mp (p.mem_iff.mpr (List.mem_cons_self (a := y) (l := ys))) with e | hy
        · exact e.symm
        · exact lex_tot x y (b1 x hx) (a1 y hy)
    subst e
    rw [up_uniq a2 b2 (List.perm_cons x |>.mp p)]
theorem isort_of {xs ys : List (List Int)} (h : upL ys) (p : ys.Perm xs) : isort xs = ys := up_uniq (isort_up xs) h ((isort_perm xs).trans p.symm)
def sortedD : D → Res D
  | .dic ks _ => match keysL ks with
    | some ls => if ls.length < 2 ∨ ls.all (fun l => !l.isEmpty) = true then .ok (.lst ((isort ls).map fun ns => .tup (ns.map .int))) else .bad
    | none => .bad
  | _ => .bad
theorem rep_ints {G : GC} {F : Hp} : ∀ {vs : List V} {ns : List Int}, RepAll G F vs (ns.map .int) → vs = ns.map V.int
  | _, [], h => by cases h; rfl
  | _, n :: ns, h => by
    rw [List.map_cons] at h
    cases h with
    | cons a b =>
      cases a
      rw [List.map_cons, rep_ints b]
theorem boot_sorted : bootBuiltins "sorted" = some (.builtin "sorted") := by decide +kernel
section
variable {X : Cx}
theorem b_sorted (hc : X.calm = true) (hm : X.mg "sorted" = none) : BlM X "sorted" (.O .flat) (one sortedD) := BlM.b hm boot_sorted (call_sortedK hc) (ne_one (fun d e z => by unfold sortedD at z; split at z <;> (try split at z) <;> (try split at z) <;> cases z)) (cal_one fun F H x a d Q s ra e q => by
  unfold sortedD at e
  split at e
  · split at e
    · rename_i ls hls
      split at e <;> cases e
      rename_i hne
      obtain ⟨p, o, xs, ws, rfl, h1, h2, h3, h4⟩ := RdD.dr s (show RdD (gOf X) F H x _ from ra)
      have hks := keysL_some hls
      have kr := h4.kr
      rw [hks] at kr
      have hlen : xs.length = ls.length := by
        have := kr.length
        rw [List.length_map, List.length_map] at this
        exact this
      have at_ : ∀ (i : Nat) (x : EN) (ns : List Int), xs[i]? = some x → ls[i]? = some ns → Rep (gOf X) F (.ref x.2.1) (.tup (ns.map .int)) := fun i x ns e1 e2 => by
        obtain ⟨d, g1, g2⟩ := kr.getV (i := i) (v := .ref x.2.1) (by rw [List.getElem?_map, e1]; rfl)
        rw [List.getElem?_map, e2] at g1
        cases g1
        exact g2
      refine ⟨p, o, xs, ls, rfl, h1, h2, h3, h3.sz, hlen, fun i x ns e1 e2 => ?_, fun hl ns hm => ?_, fun k ts l hk hp hu hl => ?_⟩
      · obtain ⟨a, vs, ea, t1, t2⟩ := (show RdD (gOf X) F H (.ref x.2.1) (.tup (ns.map .int)) from .inl (at_ i x ns e1 e2)).tup s
        cases ea
        rw [rep_ints t2] at t1
        exact t1
      · rcases hne with z | z
        · omega
        · have := List.all_eq_true.mp z ns hm
          intro e; subst e; cases this
      · have ei : isort ls = ts.map k := isort_of (List.pairwise_map.mpr hu) (by
          have := hp.map k
          rw [List.map_map] at this
          rw [← hk]
          exact this)
        have rr : RepAll (gOf X) F (ts.map V.ref) (ts.map fun t => .tup ((k t).map .int)) := by
          have hm : ∀ t ∈ ts, Rep (gOf X) F (.ref t) (.tup ((k t).map .int)) := fun t ht => by
            obtain ⟨x, hx, rfl⟩ := List.mem_map.mp (hp.mem_iff.mp ht)
            obtain ⟨i, hi⟩ := List.getElem?_of_mem hx
            refine at_ i x _ hi ?_
            rw [← hk, List.getElem?_map, hi]
            rfl
          clear hp hu ei
          induction ts with
          | nil => exact .nil
          | cons t ts ih => exact .cons (hm t List.mem_cons_self) (ih fun u hu => hm u (List.mem_cons_of_mem _ hu))
        rw [ei, List.map_map] at q
        exact q _ _ _ (Grow.own s hl) ⟨[l], Own.lst rfl upd_same (s.free hl) (OwnAll.of_rep rr) (by simp), fun a ha => by rw [List.mem_singleton.mp ha]; exact hl⟩
    · cases e
  · cases e)
end
end Mir
namespace Mir
open PySem PySem.Spec PyProof.Rows L2
variable [Tn]
def lt2 : List (List Int) → List (List Int) → Bool
  | [], [] => false
  | [], _ :: _ => true
  | _ :: _, [] => false
  | x :: xs, y :: ys => if x = y then lt2 xs ys else HT.lexLt x y
/-- the items of vs hold the rows ks -/
inductive AllTI (h : Heap) : List Value → List (List Int) → Prop
  | nil : AllTI h [] []
  | cons {v : Value} {k : List Int} {vs : List Value} {ks : List (List Int)} : IsTI h v k → AllTI h vs ks → AllTI h (v :: vs) (k :: ks)
theorem AllTI.len {h : Heap} : ∀ {vs : List Value} {ks : List (List Int)}, AllTI h vs ks → vs.length = ks.length
  | _, _, .nil => rfl
  | _, _, .cons _ t => by rw [List.length_cons, List.length_cons, t.len]
theorem AllTI.keeps {h h' : Heap} (k : ∀ b o, h.get? b = some o → o.cls = .type "tuple" → h'.get? b = some o) : ∀ {vs : List Value} {ks : List (List Int)}, AllTI h vs ks → AllTI h' vs ks
  | _, _, .nil => .nil
  | _, _, .cons a t => .cons (a.keeps k) (t.keeps k)
def IsTT (h : Heap) (v : Value) (ks : List (List Int)) : Prop := ∃ a o items n, v = Value.ref a ∧ h.get? a = some o ∧ o.cls = .type "tuple" ∧ o.data = .seq items n ∧ AllTI h items.toList ks
theorem IsTT.keeps {h h' : Heap} {v : Value} {ks : List (List Int)} (p : IsTT h v ks) (k : ∀ b o, h.get? b = some o → o.cls = .type "tuple" → h'.get? b = some o) : IsTT h' v ks := by
  obtain ⟨a, o, t, n, e, ho, hc, hd, hi⟩ := p
  exact ⟨a, o, t, n, e, k _ _ ho hc, hc, hd, hi.keeps k⟩
def rowD (ks : List (List Int)) : D := .tup (ks.map fun ns => .tup (ns.map .int))
end Mir
namespace Mir
open PySem PySem.Spec PyProof.Rows L2
variable [Tn]
theorem set_len (x : List Int) (i : Nat) (k : Int) : (x.set i k).length = x.length := List.length_set
theorem set_at {x : List Int} {i j : Nat} {k : Int} (hi : i < x.length) : (x.set i k).getD j 0 = if j = i then k else x.getD j 0 := by
  rw [List.getD_eq_getElem?_getD, List.getElem?_set]
  by_cases h : i = j
  · subst h
    rw [if_pos rfl, if_pos hi, if_pos rfl]
    rfl
  · rw [if_neg h, if_neg (fun z => h z.symm), List.getD_eq_getElem?_getD]
theorem set_el {up x : List Int} {i : Nat} {k : Int} (hx : OkE up x) (hi : i < up.length) (h0 : 0 ≤ k) (h1 : k < up.getD i 0) : OkE up (x.set i k) := by
  have hl := hx.len
  refine ⟨by rw [set_len, hl], fun p hp => ?_⟩
  obtain ⟨j, hj, e⟩ := List.getElem_of_mem hp
  rw [List.length_zip, set_len, hl] at hj
  have hj' : j < up.length := by omega
  rw [List.getElem_zip] at e
  have e1 : p.1 = (x.set i k).getD j 0 := by
    rw [← e, List.getD_eq_getElem?_getD, List.getElem?_eq_getElem (by rw [set_len]; omega)]
    rfl
  have e2 : p.2 = up.getD j 0 := by
    rw [← e, List.getD_eq_getElem?_getD, List.getElem?_eq_getElem hj']
    rfl
  rw [e1, e2, set_at (by omega)]
  split
  · rename_i q; subst q; exact ⟨h0, h1⟩
  · exact hx.get hj'
theorem set_same {x : List Int} {i : Nat} (hi : i < x.length) : x.set i (x.getD i 0) = x := ext_getD (set_len _ _ _) fun j hj => by
  rw [set_at hi]
  split
  · rename_i q; rw [q]
  · rfl
theorem set_set (x : List Int) (i : Nat) (k l : Int) : (x.set i k).set i l = x.set i l := by simp
/-- one more at the i-th place -/
theorem set_head {up x : List Int} {i : Nat} {k : Int} (g : OkR up) (hx : OkE up x) (hi : i < up.length) (h0 : 0 ≤ k) (h1 : k + 1 < up.getD i 0) : putV up (x.set i k) (headV up.length i) = x.set i (k + 1) := by
  have hl := hx.len
  have l1 : (x.set i k).length = up.length := by rw [set_len, hl]
  refine ext_getD (by rw [putV_len l1 (headV_len _ _), set_len, hl]) fun j hj => ?_
  rw [set_len, hl] at hj
  rw [putV_at hj l1 (headV_len _ _), set_at (by omega), set_at (by omega), headV_at hj]
  by_cases q : j = i
  · subst q
    rw [if_pos rfl, if_pos rfl, if_pos rfl, Int.emod_eq_of_lt (by omega) h1]
  · rw [if_neg q, if_neg q, if_neg q]
    have := hx.get hj
    rw [Int.emod_eq_of_lt (by omega) (by omega)]
    omega
/-- so many at the i-th place -/
theorem set_heads {up x : List Int} {i k : Nat} (g : OkR up) (hx : OkE up x) (hi : i < up.length) (hz : x.getD i 0 = 0) (h1 : (k : Int) < up.getD i 0) : putV up x (timesV up (k : Nat) (headV up.length i)) = x.set i (k : Nat) := by
  have hl := hx.len
  have tl := timesV_len up (headV up.length i) (k : Nat) (headV_len _ _)
  refine ext_getD (by rw [putV_len hl tl, set_len, hl]) fun j hj => ?_
  rw [set_len, hl] at hj
  rw [putV_at hj hl tl, set_at (by omega), mul_head hj (by omega) g]
  have := hx.get hj
  by_cases q : j = i
  · subst q
    rw [if_pos rfl, if_pos rfl, hz, Int.zero_add, Int.emod_emod_of_dvd _ (Int.dvd_refl _), Int.emod_eq_of_lt (by omega) h1]
  · rw [if_neg q, if_neg q, Int.add_zero, Int.emod_eq_of_lt this.1 this.2]
abbrev Cg (m a b : Int) : Prop := ∃ q, a = b + m * q
/-- what is known of two carries' difference and the labels, at one place -/
structure LabC (up : List Int) (m : Int) (d : List Int → List Int → Int) (H : List Int → Int) (lab : Nat → Int) : Prop where
  coc : ∀ x y z, OkE up x → OkE up y → OkE up z → Cg m (d x y + d (putV up x y) z) (d y z + d x (putV up y z))
  h0 : Cg m (H (zeroV up)) (d (zeroV up) (zeroV up))
  hs : ∀ i x, i < up.length → OkE up x → (∀ j, i < j → x.getD j 0 = 0) → x.getD i 0 + 1 < up.getD i 0 → Cg m (H (putV up x (headV up.length i))) (H x + lab i - d x (headV up.length i))
  wt : ∀ i, i < up.length → Cg m (up.getD i 0 * lab i) (((List.range (up.getD i 0).toNat).map fun k : Nat => d (timesV up (k : Nat) (headV up.length i)) (headV up.length i)).sum)
  od : ∀ i j, i < j → j < up.length → Cg m (d (headV up.length i) (headV up.length j)) (d (headV up.length j) (headV up.length i))
section
variable {up : List Int} {m : Int} {d : List Int → List Int → Int} {H : List Int → Int} {lab : Nat → Int}
def dfD (up : List Int) (d : List Int → List Int → Int) (H : List Int → Int) (x y : List Int) : Int := d x y - (H x + H y - H (putV up x y))
theorem LabC.D_coc (L : LabC up m d H lab) (g : OkR up) {x y z : List Int} (hx : OkE up x) (hy : OkE up y) (hz : OkE up z) : Cg m (dfD up d H x y + dfD up d H (putV up x y) z) (dfD up d H y z + dfD up d H x (putV up y z)) := by
  obtain ⟨q, e⟩ := L.coc x y z hx hy hz
  refine ⟨q, ?_⟩
  unfold dfD
  rw [putV_assoc hx.len hy.len hz.len]
  omega
theorem put0 {x : List Int} (hx : OkE up x) : putV up x (zeroV up) = x := put_zero hx
theorem put0l {x : List Int} (g : OkR up) (hx : OkE up x) : putV up (zeroV up) x = x := by rw [putV_comm (zero_el g).len hx.len, put_zero hx]
theorem LabC.D00 (L : LabC up m d H lab) (g : OkR up) : Cg m (dfD up d H (zeroV up) (zeroV up)) 0 := by
  obtain ⟨q, e⟩ := L.h0
  refine ⟨-q, ?_⟩
  unfold dfD
  rw [put0 (zero_el g), Int.mul_neg]
  omega
theorem LabC.D0y (L : LabC up m d H lab) (g : OkR up) {y : List Int} (hy : OkE up y) : Cg m (dfD up d H (zeroV up) y) 0 := by
  have z := zero_el g
  obtain ⟨q, e⟩ := L.D_coc g z z hy
  obtain ⟨q2, e2⟩ := L.D00 g
  rw [put0 z, put0l g hy] at e
  refine ⟨q2 - q, ?_⟩
  rw [Int.mul_sub]
  omega
theorem LabC.Dx0 (L : LabC up m d H lab) (g : OkR up) {x : List Int} (hx : OkE up x) : Cg m (dfD up d H x (zeroV up)) 0 := by
  have z := zero_el g
  obtain ⟨q, e⟩ := L.D_coc g hx z z
  obtain ⟨q2, e2⟩ := L.D00 g
  rw [put0 z, put0 hx] at e
  refine ⟨q2 + q, ?_⟩
  rw [Int.mul_add]
  omega
theorem LabC.H_head (L : LabC up m d H lab) (g : OkR up) {i : Nat} (hi : i < up.length) : Cg m (H (headV up.length i)) (lab i) := by
  have z := zero_el g
  have he := head_el g i
  have n2 := g.get hi
  obtain ⟨q, e⟩ := L.hs i (zeroV up) hi z (fun j _ => zeroV_at up j) (by rw [zeroV_at]; omega)
  obtain ⟨q2, e2⟩ := L.D0y g he
  rw [put0l g he] at e
  unfold dfD at e2
  rw [put0l g he] at e2
  refine ⟨q - q2, ?_⟩
  rw [Int.mul_sub]
  omega
/-- the places behind i are nought -/
def Low (i : Nat) (x : List Int) : Prop := ∀ j, i < j → x.getD j 0 = 0
theorem LabC.step1 (L : LabC up m d H lab) (g : OkR up) {i : Nat} (hi : i < up.length) {x : List Int} (hx : OkE up x) (hl : Low i x) (h : x.getD i 0 + 1 < up.getD i 0) : Cg m (dfD up d H x (headV up.length i)) 0 := by
  obtain ⟨q, e⟩ := L.hs i x hi hx hl h
  obtain ⟨q2, e2⟩ := L.H_head g hi
  refine ⟨q - q2, ?_⟩
  unfold dfD
  rw [e, e2, Int.mul_sub]
  omega
theorem low_zero (i : Nat) : Low i (zeroV up) := fun j _ => zeroV_at up j
theorem low_set {x : List Int} {i : Nat} {k : Int} (hi : i < x.length) (h : Low i x) : Low i (x.set i k) := fun j hj => by
  rw [set_at hi, if_neg (by omega)]
  exact h j hj
theorem LabC.sums (L : LabC up m d H lab) (g : OkR up) {i : Nat} (hi : i < up.length) : ∀ k : Nat, (k : Int) < up.getD i 0 → Cg m (H ((zeroV up).set i (k : Nat)))
    (H (zeroV up) + (k : Nat) * lab i - ((List.range k).map fun k : Nat => d (timesV up (k : Nat) (headV up.length i)) (headV up.length i)).sum)
  | 0, _ => by
    have e : (zeroV up).set i ((0 : Nat) : Int) = zeroV up := by
      have := set_same (x := zeroV up) (i := i) (by unfold zeroV; simpa using hi)
      rw [zeroV_at] at this
      exact this
    rw [e]
    exact ⟨0, by simp⟩
  | k + 1, hk => by
    have z := zero_el g
    have zl : i < (zeroV up).length := by rw [z.len]; exact hi
    obtain ⟨q, e⟩ := LabC.sums L g hi k (by omega)
    have hx := set_el z hi (k := (k : Nat)) (by omega) (by omega)
    obtain ⟨q2, e2⟩ := L.hs i _ hi hx (low_set zl (low_zero i)) (by rw [set_at zl, if_pos rfl]; omega)
    rw [set_head g z hi (by omega) (by omega)] at e2
    have sh := set_heads (k := k) g z hi (zeroV_at up i) (by omega)
    rw [put0l g (times_el g (headV_len _ _))] at sh
    refine ⟨q2 + q, ?_⟩
    rw [List.range_succ, List.map_append, List.sum_append]
    simp only [List.map_cons, List.map_nil, List.sum_cons, List.sum_nil]
    rw [sh]
    show H ((zeroV up).set i ((k + 1 : Nat) : Int)) = _
    rw [show ((k + 1 : Nat) : Int) = (k : Int) + 1 by omega, e2, e, Int.mul_add, Int.add_mul]
    simp
    omega
/-- the last turn round -/
theorem LabC.wrap0 (L : LabC up m d H lab) (g : OkR up) {i : Nat} (hi : i < up.length) : Cg m (dfD up d H ((zeroV up).set i (up.getD i 0 - 1)) (headV up.length i)) 0 := by
  have z := zero_el g
  have n2 := g.get hi
  obtain ⟨n, hn⟩ : ∃ n : Nat, up.getD i 0 = (n : Int) + 1 := ⟨(up.getD i 0 - 1).toNat, by omega⟩
  obtain ⟨q, e⟩ := L.sums g hi n (by omega)
  obtain ⟨q2, e2⟩ := L.wt i hi
  obtain ⟨q3, e3⟩ := L.H_head g hi
  have sh := set_heads (k := n) g z hi (zeroV_at up i) (by omega)
  rw [put0l g (times_el g (headV_len _ _))] at sh
  have e4 : up.getD i 0 - 1 = (n : Int) := by omega
  have tn : (up.getD i 0).toNat = n + 1 := by omega
  rw [tn, List.range_succ, List.map_append, List.sum_append] at e2
  simp only [List.map_cons, List.map_nil, List.sum_cons, List.sum_nil] at e2
  rw [sh, hn, Int.add_mul] at e2
  have back : putV up ((zeroV up).set i (n : Int)) (headV up.length i) = zeroV up := by
    rw [← sh, times_succ (headV_len _ _), show ((n + 1 : Nat) : Int) = up.getD i 0 by omega, times_nil g i hi]
  rw [e4]
  unfold dfD
  rw [back]
  refine ⟨-q2 - q - q3, ?_⟩
  rw [Int.mul_sub, Int.mul_sub, Int.mul_neg, e, e3]
  omega
theorem LabC.base (L : LabC up m d H lab) (g : OkR up) {i : Nat} (hi : i < up.length) {b : List Int} (hb : OkE up b) (hl : Low i b) (h0 : b.getD i 0 = 0) : ∀ k : Nat, (k : Int) < up.getD i 0 → Cg m (dfD up d H b ((zeroV up).set i (k : Nat))) 0
  | 0, _ => by
    have e : (zeroV up).set i ((0 : Nat) : Int) = zeroV up := by
      have := set_same (x := zeroV up) (i := i) (by unfold zeroV; simpa using hi)
      rw [zeroV_at] at this
      exact this
    rw [e]
    exact L.Dx0 g hb
  | k + 1, hk => by
    have z := zero_el g
    have bl : i < b.length := by rw [hb.len]; exact hi
    have zl : i < (zeroV up).length := by rw [z.len]; exact hi
    obtain ⟨q, e⟩ := LabC.base L g hi hb hl h0 k (by omega)
    have hx := set_el z hi (k := (k : Nat)) (by omega) (by omega)
    obtain ⟨q2, e2⟩ := L.D_coc g hb hx (head_el g i)
    have sh := set_heads (k := k) g z hi (zeroV_at up i) (by omega)
    rw [put0l g (times_el g (headV_len _ _))] at sh
    have sb := set_heads (k := k) g hb hi h0 (by omega)
    have eb : putV up b ((zeroV up).set i (k : Nat)) = b.set i (k : Nat) := by rw [← sh]; exact sb
    rw [eb, set_head g z hi (by omega) (by omega)] at e2
    have bk := set_el hb hi (k := (k : Nat)) (by omega) (by omega)
    obtain ⟨q3, e3⟩ := L.step1 g hi bk (low_set bl hl) (by rw [set_at bl, if_pos rfl]; omega)
    obtain ⟨q4, e4⟩ := L.step1 g hi hx (low_set zl (low_zero i)) (by rw [set_at zl, if_pos rfl]; omega)
    show Cg m (dfD up d H b ((zeroV up).set i ((k + 1 : Nat) : Int))) 0
    rw [show ((k + 1 : Nat) : Int) = (k : Int) + 1 by omega]
    refine ⟨q + q3 - q4 - q2, ?_⟩
    rw [Int.mul_sub, Int.mul_sub, Int.mul_add]
    omega
/-- by a head whose place is the last -/
theorem LabC.S (L : LabC up m d H lab) (g : OkR up) {i : Nat} (hi : i < up.length) {x : List Int} (hx : OkE up x) (hl : Low i x) : Cg m (dfD up d H x (headV up.length i)) 0 := by
  have n2 := g.get hi
  have z := zero_el g
  obtain ⟨x0, x1⟩ := hx.get hi
  have xl : i < x.length := by rw [hx.len]; exact hi
  by_cases h : x.getD i 0 + 1 < up.getD i 0
  · exact L.step1 g hi hx hl h
  · obtain ⟨n, hn⟩ : ∃ n : Nat, x.getD i 0 = (n : Int) := ⟨(x.getD i 0).toNat, by omega⟩
    have hb := set_el hx hi (k := 0) (by omega) (by omega)
    have b0 : (x.set i 0).getD i 0 = 0 := by rw [set_at xl, if_pos rfl]
    have bl := low_set (k := 0) xl hl
    obtain ⟨q, e⟩ := L.base g hi hb bl b0 n (by omega)
    have sh := set_heads (k := n) g z hi (zeroV_at up i) (by omega)
    rw [put0l g (times_el g (headV_len _ _))] at sh
    have zx := set_el z hi (k := (n : Nat)) (by omega) (by omega)
    obtain ⟨q2, e2⟩ := L.D_coc g hb zx (head_el g i)
    have sb := set_heads (k := n) g hb hi b0 (by omega)
    have eb : putV up (x.set i 0) ((zeroV up).set i (n : Nat)) = x := by rw [← sh, sb, set_set, ← hn, set_same xl]
    have back : putV up ((zeroV up).set i (n : Int)) (headV up.length i) = zeroV up := by
      rw [← sh, times_succ (headV_len _ _), show ((n + 1 : Nat) : Int) = up.getD i 0 by omega, times_nil g i hi]
    obtain ⟨q3, e3⟩ := L.wrap0 g hi
    rw [show up.getD i 0 - 1 = (n : Int) by omega] at e3
    obtain ⟨q4, e4⟩ := L.Dx0 g hb
    rw [eb, back] at e2
    refine ⟨q2 + q3 + q4 - q, ?_⟩
    rw [Int.mul_sub, Int.mul_add, Int.mul_add]
    omega
theorem low_head {i j : Nat} (h : i ≤ j) : Low j (headV up.length i) := fun k hk => by
  by_cases q : k < up.length
  · rw [headV_at q, if_neg (by omega)]
  · rw [List.getD_eq_getElem?_getD, List.getElem?_eq_none (by rw [headV_len]; omega)]
    rfl
theorem LabC.heads2 (L : LabC up m d H lab) (g : OkR up) {i j : Nat} (hij : i < j) (hj : j < up.length) : Cg m (dfD up d H (headV up.length i) (headV up.length j)) 0 ∧ Cg m (dfD up d H (headV up.length j) (headV up.length i)) 0 := by
  obtain ⟨q, e⟩ := L.S g hj (head_el g i) (low_head (by omega))
  refine ⟨⟨q, e⟩, ?_⟩
  obtain ⟨q2, e2⟩ := L.od i j hij hj
  unfold dfD at e ⊢
  refine ⟨q - q2, ?_⟩
  rw [putV_comm (headV_len _ _) (headV_len _ _), Int.mul_sub]
  omega
theorem low_put {x y : List Int} {j : Nat} (g : OkR up) (hx : OkE up x) (hy : OkE up y) (h1 : Low j x) (h2 : Low j y) : Low j (putV up x y) := fun k hk => by
  by_cases q : k < up.length
  · rw [putV_at q hx.len hy.len, h1 k hk, h2 k hk]
    simp
  · rw [List.getD_eq_getElem?_getD, List.getElem?_eq_none (by rw [putV_len hx.len hy.len]; omega)]
    rfl
/-- by a head, whatever stands behind it -/
theorem LabC.T (L : LabC up m d H lab) (g : OkR up) {i : Nat} (hi : i < up.length) : ∀ j : Nat, i ≤ j → j < up.length → ∀ (n : Nat) (x : List Int), OkE up x → Low j x → x.getD j 0 = (n : Int) → Cg m (dfD up d H x (headV up.length i)) 0 := by
  intro j
  induction j with
  | zero =>
    intro hij hj n x hx hl _
    have : i = 0 := by omega
    subst this
    exact L.S g hi hx hl
  | succ j ih =>
    intro hij hj n
    by_cases q : i = j + 1
    · subst q
      intro x hx hl _
      exact L.S g hi hx hl
    · induction n with
      | zero =>
        intro x hx hl h0
        refine ih (by omega) (by omega) (x.getD j 0).toNat x hx (fun k hk => ?_) ?_
        · by_cases r : k = j + 1
          · subst r; exact h0
          · exact hl k (by omega)
        · have := hx.get (i := j) (by omega)
          omega
      | succ n ihn =>
        intro x hx hl hn
        have xl : j + 1 < x.length := by rw [hx.len]; exact hj
        have xb := hx.get hj
        have hx' := set_el hx hj (k := (n : Int)) (by omega) (by omega)
        have l' := low_set (k := (n : Int)) xl hl
        have a0 := ihn _ hx' l' (by rw [set_at xl, if_pos rfl])
        have hj1 := head_el g (j + 1)
        have hi1 := head_el g i
        obtain ⟨q1, e1⟩ := a0
        obtain ⟨q2, e2⟩ := L.D_coc g hx' hj1 hi1
        obtain ⟨q3, e3⟩ := L.D_coc g hx' hi1 hj1
        obtain ⟨q4, e4⟩ := L.S g hj hx' l'
        obtain ⟨q5, e5⟩ := L.S g hj (put_el g hx'.len hi1.len) (low_put g hx' hi1 l' (low_head (by omega)))
        obtain ⟨⟨q6, e6⟩, q7, e7⟩ := L.heads2 g (i := i) (j := j + 1) (by omega) hj
        rw [set_head g hx hj (by omega) (by omega), show (n : Int) + 1 = x.getD (j + 1) 0 by omega, set_same xl, putV_comm hj1.len hi1.len] at e2
        refine ⟨q2 - q4 + q7 + q1 + q5 - q6 - q3, ?_⟩
        simp only [Int.mul_sub, Int.mul_add]
        omega
theorem LabC.all_heads (L : LabC up m d H lab) (g : OkR up) {i : Nat} (hi : i < up.length) {x : List Int} (hx : OkE up x) : Cg m (dfD up d H x (headV up.length i)) 0 := by
  have hn : up.length - 1 < up.length := by omega
  refine L.T g hi (up.length - 1) (by omega) hn (x.getD (up.length - 1) 0).toNat x hx (fun j hj => ?_) (by have := hx.get hn; omega)
  rw [List.getD_eq_getElem?_getD, List.getElem?_eq_none (by rw [hx.len]; omega)]
  rfl
theorem sum_set : ∀ (x : List Int) (i : Nat) (k : Int), i < x.length → (x.set i k).sum = x.sum - x.getD i 0 + k
  | [], _, _, h => by simp at h
  | a :: x, 0, k, _ => by simp; omega
  | a :: x, i + 1, k, h => by
    have := sum_set x i k (by simpa using h)
    simp at this ⊢
    omega
/-- .. and so by all -/
theorem LabC.all (L : LabC up m d H lab) (g : OkR up) : ∀ (n : Nat) (y : List Int), OkE up y → y.sum = (n : Int) → ∀ x, OkE up x → Cg m (dfD up d H x y) 0 := by
  intro n
  induction n with
  | zero =>
    intro y hy hs x hx
    have e : y = zeroV up := by
      refine ext_getD (by rw [hy.len]; unfold zeroV; simp) fun i hi => ?_
      rw [zeroV_at]
      have hi : i < up.length := by unfold zeroV at hi; simpa using hi
      by_cases q : y.getD i 0 = 0
      · exact q
      · have nn : ∀ z : List Int, (∀ i, i < z.length → 0 ≤ z.getD i 0) → 0 ≤ z.sum := fun z => by
          induction z with
          | nil => intro _; simp
          | cons a z ih =>
            intro h
            have h0 := h 0 (by simp)
            have h1 := ih fun i hi => by have := h (i + 1) (by simpa using hi); simpa using this
            simp at h0 ⊢
            omega
        have yl : i < y.length := by rw [hy.len]; exact hi
        have p := nn (y.set i 0) fun j hj => by
          rw [set_at yl]
          split
          · omega
          · rw [set_len] at hj
            exact (hy.get (by rw [← hy.len]; exact hj)).1
        rw [sum_set y i 0 yl] at p
        have := hy.get hi
        omega
    rw [e]
    exact L.Dx0 g hx
  | succ n ih =>
    intro y hy hs x hx
    obtain ⟨i, hi, h1⟩ : ∃ i, i < up.length ∧ 1 ≤ y.getD i 0 := by
      by_cases q : ∃ i, i < up.length ∧ 1 ≤ y.getD i 0
      · exact q
      · exfalso
        have np : ∀ z : List Int, (∀ i, i < z.length → z.getD i 0 ≤ 0) → z.sum ≤ 0 := fun z => by
          induction z with
          | nil => intro _; simp
          | cons a z ih =>
            intro h
            have h0 := h 0 (by simp)
            have h1 := ih fun i hi => by have := h (i + 1) (by simpa using hi); simpa using this
            simp at h0 ⊢
            omega
        have := np y fun i hi => by
          by_cases r : 1 ≤ y.getD i 0
          · exact absurd ⟨i, by rw [← hy.len]; exact hi, r⟩ q
          · omega
        omega
    have yl : i < y.length := by rw [hy.len]; exact hi
    have yb := hy.get hi
    have hy' := set_el hy hi (k := y.getD i 0 - 1) (by omega) (by omega)
    obtain ⟨q1, e1⟩ := ih _ hy' (by rw [sum_set y i _ yl]; omega) x hx
    obtain ⟨q2, e2⟩ := L.D_coc g hx hy' (head_el g i)
    obtain ⟨q3, e3⟩ := L.all_heads g hi (put_el g hx.len hy'.len)
    obtain ⟨q4, e4⟩ := L.all_heads g hi hy'
    rw [set_head g hy hi (by omega) (by omega), show y.getD i 0 - 1 + 1 = y.getD i 0 by omega, set_same yl] at e2
    refine ⟨q1 + q3 - q4 - q2, ?_⟩
    simp only [Int.mul_sub, Int.mul_add]
    omega
end
end Mir
namespace Mir
open PySem PySem.Spec PyProof.Rows L2
variable [Tn]
section
variable {G : GC} {J : L2.St → Prop} {H0 F0 F H : Hp} {fp : Nat → List Addr} {σ : L2.St} {r : Env}
/-- behind a test that was worked out on the lent parts they are one's own again -/
theorem MS.back (m : MS G J H0 F0 fp F σ H r) {i : Nat} {sp : Shape} {o : D} (e : r[i]? = some (.ow sp o)) {F' H' : Hp} (g : Grow (share F H (fp i)) H F' H') : ∃ F2, Grow F H F2 H' := by
  obtain ⟨⟨v, h1, h2⟩, h3⟩ := m.ow i sp o e
  refine ⟨fun a => if a ∈ fp i then F a else F' a, ⟨Stays.unshare g.h m.sub g.f (fun a ha => (h2.there a ha).2) h2.nt h2.nc fun a ha => if_neg ha, fun a u h => ?_, fun a u h => ?_, fun a u h => ?_⟩⟩
  · show (if a ∈ fp i then F a else F' a) = some u
    split
    · exact h
    · rename_i ne
      exact g.f a u (by rw [share_ne ne]; exact h)
  · have h : (if a ∈ fp i then F a else F' a) = some u := h
    split at h
    · exact g.sub a u (g.f a u (share_same m.sub _ a u h))
    · exact g.sub a u h
  · have h : (if a ∈ fp i then F a else F' a) = some u := h
    split at h
    · exact .inl h
    · rename_i ne
      rcases g.new a u h with z | z
      · rw [share_ne ne] at z; exact .inl z
      · exact .inr z
end
def lendP (i : Nat) (f : Env → Res Bool) (r : Env) : Res Bool := match r[i]? with
  | some (.ow _ _) => match f (freeze i r) with
    | .ok d => .ok d
    | _ => .bad
  | _ => f r
theorem rt_lendP (i : Nat) {X : Cx} {W : Wi} {e : Expr} {f : Env → Res Bool} (h : RT X W e f) : RT X W e (lendP i f) := by
  refine ⟨fun pins s σ H Q I hw => h.run pins s σ H Q I ?_⟩
  obtain ⟨H0, F0, fp, F, r, m, o⟩ := hw
  unfold lendP at o
  split at o
  · rename_i sp ob er
    refine ⟨H0, F0, fp, _, _, m.freezeX er, ?_⟩
    cases hf : f (freeze i r) with
    | ok d =>
      rw [hf] at o
      intro F' H' g
      obtain ⟨F2, g2⟩ := m.back er g
      exact o F2 H' g2
    | er x => rw [hf] at o; exact o.elim
    | bad => rw [hf] at o; exact o.elim
  · exact ⟨H0, F0, fp, F, r, m, o⟩
def clrTI (i n : Nat) (r : Env) : Oc := match r[i]? with
  | some (.ow s (.tup vs)) => if (s.kid n).isFlat = true then (match vs[n]? with
    | some (.dic _ _) => .nx (r.set i (.ow s (.tup (vs.set n (.dic [] [])))))
    | _ => .bad) else .bad
  | _ => .bad
section
variable {X : Cx} {W : Wi} {k : Kd} {pos apos cpos ps q p3 : Pos} {x : Str} {j : Nat} {o : Expr} {te : TE}
theorem pe_dclearE (he : PE X o te) (hbase : attributeBase o "clear" X.env (eval o X.env) = eval o X.env) (hline : (apos.endLine == cpos.line) = true) :
    PE X (.Call (.Attribute o "clear" apos) [] [] cpos) (fun σ H Q => te σ H fun v H1 => rDU X (fun xs ws ks vs F p H => ∀ o', DicO (gOf X) o' [] → Q .non (upd H p (.ext (isObj' p o')))) v H1) := by
  refine ⟨fun pins s σ H Q I h => ?_⟩
  refine wpAny_Call_method0_late hbase hline (thn (he.run pins s σ H _ I h) fun u s1 ⟨y, H1, I1, r1, h⟩ => ?_)
  obtain ⟨F', p, o, xs, ws, ks, vs, rfl, sF, hp, hn, dd, dr, q⟩ := h
  cases r1
  have dm := dr_of I1 sF hp dd dr
  obtain ⟨es, ep, h1, h2⟩ := dd.dat
  have hr := ext_raw I1 hp dd.ex h1
  refine ⟨"dict", "dict.clear", F.plainAttrs_dict, F.slot_dict_clear, F.type_dict_clear, hr.typeIs, fun a ea => by cases ea; exact ⟨o, (I1.hok p _ hp).1, dd.ex.2.1⟩, Calls.callWith_builtin rfl (PySem.evalArgs_none ?_)⟩
  refine clear_keyed (knd := nestedKind X.prog X.w) ⟨xs, dm, rfl⟩ (fun h' hm hs => ?_) (by rw [pairsH_length]; exact dd.sz)
  obtain ⟨ys, hy, ey⟩ := hm
  have eys : ys = [] := by
    cases ys with
    | nil => rfl
    | cons a b => cases ey
  subst eys
  obtain ⟨o', e1, e2⟩ := dicO_of hy (Nat.zero_le _)
  exact ⟨.non, _, d_write (t' := s1.toks) I1 (by rw [hp]; exact True.intro) hs ⟨o', e1⟩ (ext_ok e1), rfl, q o' e2⟩
theorem rs_clrTI (i n : Nat) (hN : X.N[i]? = some x := by rfl) (hv : Vis X.env.scope x := by first | exact Or.inl rfl | exact Or.inr (Or.inl rfl) | exact Or.inr (Or.inr rfl)) (hd : (x == ("__debug__" : Str)) = false := by decide)
    (hcd : (x == ("__classdict__" : Str)) = false := by decide) (hx : PlainIx (.Constant (.int (n : Nat)) j q) := by intro _ _; rfl)
    (hs : swapsWith (.Call (.Attribute (.Subscript (.Name x ps) (.Constant (.int (n : Nat)) j q) p3) "clear" apos) [] [] cpos) none pos.line X.env = pure false := by rfl)
    (hbase : attributeBase (.Subscript (.Name x ps) (.Constant (.int (n : Nat)) j q) p3) "clear" X.env (eval (.Subscript (.Name x ps) (.Constant (.int (n : Nat)) j q) p3) X.env) = eval (.Subscript (.Name x ps) (.Constant (.int (n : Nat)) j q) p3) X.env := by rfl) (hline : (apos.endLine == cpos.line) = true := by rfl) :
    RS X W k (.Expr (.Call (.Attribute (.Subscript (.Name x ps) (.Constant (.int (n : Nat)) j q) p3) "clear" apos) [] [] cpos) pos) (clrTI i n) :=
  (ps_expr (pe_dclearE (pe_ix ix_seq (pe_var hN hv hd hcd) pe_int hx) hbase hline) hs).imp fun D σ H ⟨H0, F0, fp, F, r, m, o⟩ => by
    unfold clrTI at o
    split at o
    · rename_i s vs hi
      split at o
      · rename_i hfl
        have hfl := Shape.flat_of hfl
        split at o
        · rename_i ks us hvs
          obtain ⟨⟨w, hw, ow⟩, hA⟩ := m.ow i _ _ hi
          generalize hAA : fp i = A at ow hA
          cases ow with
          | sh _ => cases hfl
          | opt h2 hs =>
            have := hs n _ hvs (by rw [hfl]; rfl)
            simp [soft] at this
          | @tup _ a ws _ A' so ha fa oa na =>
            obtain ⟨w2, B, b1, b2, b3, b4⟩ := oa.setAt (d' := .dic [] []) n hvs
            rw [Nat.zero_add, hfl] at b2 b4
            refine ⟨.ref a, hw, .inr (.inl ⟨a, ws, _, w2, rfl, rfl, .of ha, atI_of b1, ?_⟩)⟩
            cases b2 with
            | @dic _ p ob xs wz _ _ _ h0 e2 f2 z1 z2 z3 z4 z5 ra nb =>
              obtain ⟨rfl, rr⟩ := ra.to_rep
              have dr : DR (gOf X) F xs wz ks us := DR.mk z3 z4 z5 rr
              refine ⟨F, p, ob, xs, wz, ks, us, rfl, m.sub, e2, z1, z2, dr, fun o2 dd => ?_⟩
              have pA := b3 p (by simp)
              have hap : a ≠ p := fun y => na (y ▸ pA)
              have oo := b4 p (.ext (isObj' p o2)) (by simp) (Own.dr upd_same f2 z1 dd (DR.nil (F := F)))
              obtain ⟨fp', m3⟩ := m.write hi hw (by rw [hAA]; exact List.mem_cons_of_mem _ pA) (Own.tup so (by rw [upd_ne hap]; exact ha) fa oo na) fun y hy => .inl (by rw [hAA]; exact hy)
              exact o fp' F σ _ (Same.refl _) m3
        · exact o.elim
      · exact o.elim
    · exact o.elim
end
end Mir
namespace Mir
open PySem PySem.Spec PyProof.Rows L2
variable [Tn]
abbrev ZRec (h : Heap) (z TI TO : Addr) (f0 f1 : Value) : Prop :=
  h.get? z = some { cls := .type "zip", dict := none, data := .fields #[f0, f1, .bool false, .ref TI, .ref TO], slots := #[] }
section
variable {prog : Program} {w : World} {A : Around} {E : Value → Shared → Prop} {s : Shared}
/-- a zip between two turns: nothing given out, or a tuple that is still there or gone -/
def ZSt (h : Heap) (z TI TO : Addr) : Prop := ZRec h z TI TO .none (.bool false) ∨ ∃ (T : Addr) (f : Bool), ZRec h z TI TO (rawInt T) (.bool f)
end
end Mir
namespace Mir
open PySem PySem.Spec PyProof.Rows L2
variable [Tn]
/-- what a turn of the zip leaves -/
structure ZAll (h : Heap) (z TI TO i1 i2 l1 l2 : Addr) (k1 k2 : Bool) (p : Nat) : Prop where
  st : ZSt h z TI TO
  ti : IsT h TI #[.ref i1, .ref i2]
  to_ : ∃ o1 o2 : Value, IsT h TO #[o1, o2]
  n1 : SIt h k1 i1 l1 p
  n2 : SIt h k2 i2 l2 p
theorem ZSt.at {h h' : Heap} {z TI TO : Addr} (x : ZSt h z TI TO) (f : ∀ o, h.get? z = some o → h'.get? z = some o) : ZSt h' z TI TO := by
  rcases x with x | ⟨T, g, x⟩
  · exact .inl (f _ x)
  · exact .inr ⟨T, g, f _ x⟩
theorem ZSt.ob {h : Heap} {z TI TO : Addr} (x : ZSt h z TI TO) : ∃ o, h.get? z = some o ∧ ∀ v, o.data ≠ .cell v := by
  rcases x with x | ⟨T, g, x⟩
  · exact ⟨_, x, fun v q => nomatch q⟩
  · exact ⟨_, x, fun v q => nomatch q⟩
theorem ZSt.lt {h : Heap} {z TI TO : Addr} (x : ZSt h z TI TO) : z < h.objs.size := let ⟨_, e, _⟩ := x.ob; Heap.lt_size e
section
variable {h h' : Heap} {z TI TO i1 i2 l1 l2 : Addr} {k1 k2 : Bool} {p : Nat}
theorem ZAll.at (x : ZAll h z TI TO i1 i2 l1 l2 k1 k2 p) (f : ∀ b, (b = z ∨ b = TI ∨ b = TO ∨ b = i1 ∨ b = i2) → ∀ o, h.get? b = some o → h'.get? b = some o) : ZAll h' z TI TO i1 i2 l1 l2 k1 k2 p where
  st := x.st.at (f z (.inl rfl))
  ti := f TI (.inr (.inl rfl)) _ x.ti
  to_ := let ⟨o1, o2, e⟩ := x.to_; ⟨o1, o2, f TO (.inr (.inr (.inl rfl))) _ e⟩
  n1 := x.n1.at (f i1 (.inr (.inr (.inr (.inl rfl)))))
  n2 := x.n2.at (f i2 (.inr (.inr (.inr (.inr rfl)))))
theorem ZAll.lt (x : ZAll h z TI TO i1 i2 l1 l2 k1 k2 p) {b : Addr} (hb : b = z ∨ b = TI ∨ b = TO ∨ b = i1 ∨ b = i2) : b < h.objs.size := by
  obtain ⟨o1, o2, e⟩ := x.to_
  rcases hb with q | q | q | q | q
  · rw [q]; exact x.st.lt
  · rw [q]; exact Heap.lt_size x.ti
  · rw [q]; exact Heap.lt_size e
  · rw [q]; exact x.n1.lt
  · rw [q]; exact x.n2.lt
end
end Mir
namespace Mir
open PySem PySem.Spec PyProof.Rows L2
variable [Tn]
section
variable {X : Cx} {W : Wi} {k : Nat}
@[simp] def tupRevD : D → Res D
  | .tup xs => .ok (.tup xs.reverse)
  | _ => .bad
end
end Mir
namespace Mir
open PySem PySem.Spec PyProof.Rows L2
variable [Tn]
def capsD : List Nat → Env → Res (List D)
  | [], _ => .ok []
  | j :: js, r => getS j r >>= fun d => capsD js r >>= fun ds => .ok (d :: ds)
@[simp] theorem capsD_nil (r : Env) : capsD [] r = .ok [] := rfl
@[simp] theorem capsD_cons (j : Nat) (js : List Nat) (r : Env) : capsD (j :: js) r = (getS j r >>= fun d => capsD js r >>= fun ds => .ok (d :: ds)) := rfl
end Mir
namespace Mir
open PySem PySem.Spec PyProof.Rows L2
variable [Tn]
section
variable {X : Cx} {W : Wi}
theorem Own.opts {G : GC} {F H : Hp} {l : List Shape} {v : V} {d : D} {A : List Addr} (h : Own G F H (.parts l) v d A) : Own G F H (.opts l) v d A := by
  cases h with
  | lst h0 h1 h2 h3 h4 => exact .lst rfl h1 h2 h3 h4
  | tup h0 h1 h2 h3 h4 => exact .tup rfl h1 h2 h3 h4
  | dic h0 h1 h2 z1 z2 z3 z4 z5 h3 h4 => exact .dic rfl h1 h2 z1 z2 z3 z4 z5 h3 h4
  | obj h0 h1 h2 z h3 h4 => exact .obj rfl h1 h2 z h3 h4
end
end Mir
namespace Mir
open PySem PySem.Spec PyProof.Rows L2
variable [Tn]
theorem each_of_vals {its : List Value} : ∀ {bs : List (V × PyData)}, Vals (bs.map (·.1)) its → PySem.W.EachIs (fun v (b : V × PyData) => RelV b.1 v) its bs := by
  induction its with
  | nil =>
    intro bs h
    cases bs with
    | nil => exact .nil
    | cons b bs => cases h
  | cons v its ih =>
    intro bs h
    cases bs with
    | nil => cases h
    | cons b bs =>
      cases h with
      | cons r t => exact .cons r (ih t)
theorem vals_of_each : ∀ {its : List Value} {bs : List (V × PyData)}, PySem.W.EachIs (fun v (b : V × PyData) => RelV b.1 v) its bs → Vals (bs.map (·.1)) its
  | _, _, .nil => .nil
  | _, _, .cons r t => .cons r (vals_of_each t)
theorem each_and {α β : Type} {R S : α → β → Prop} : ∀ {as : List α} {bs : List β}, PySem.W.EachIs R as bs → (∀ b ∈ bs, ∀ a, R a b → S a b) → PySem.W.EachIs S as bs
  | _, _, .nil, _ => .nil
  | _, _, .cons r t, h => .cons (h _ List.mem_cons_self _ r) (each_and t fun b hb => h b (List.mem_cons_of_mem _ hb))
def rSortX (K : PySem.W.Frag) : List V → Hp → VK → Prop := fun vs H Q => ∃ (a : Addr) (bs : List (V × PyData)), vs = [.ref a] ∧ SqL K H a (bs.map (·.1)) ∧ (∀ b ∈ bs, Dp K H b.1 b.2) ∧ PySem.W.AllAlike (bs.map (·.2)) ∧ PySem.W.Sortable (bs.map (·.2)) ∧ (∀ b ∈ bs, b.2.depth ≤ 50) ∧
  ∀ p, H p = none → Q (.ref p) (upd H p (.lst ((bs.mergeSort (PySem.W.dataLe false (·.2))).map (·.1))))
section
variable {X : Cx}
theorem call_sortedX (hu : X.A.units + 65 < cLine) : CallR X (.builtin "sorted") (rSortX X.K) := by
  intro pins s σ H vs us Q I r h
  obtain ⟨a, bs, rfl, hs, hd, hal, hk, hdp, q⟩ := h
  obtain ⟨its, rv, hl, hz⟩ := I.list hs
  obtain ⟨u, rfl, ru⟩ := vals1 r
  obtain rfl : u = Value.ref a := ru
  have e := each_of_vals rv
  have er : PySem.W.EachIs (fun v (b : V × PyData) => ∃ as, Reads s.heap v b.2 as) its bs := each_and e fun b hb v rb => Dp.reads I b.2 b.1 v (hd b hb) rb
  have hzb : bs.length ≤ sizeLine := by simpa using hz
  refine PySem.W.sorted_data (R := fun v (b : V × PyData) => RelV b.1 v) (enc := (·.2)) (vs := its) (bs := bs) hl.isList e er hal hk hzb (fun b hb => by have := hdp b hb; omega) fun out ho eo => ?_
  obtain ⟨n, hn⟩ := PyProof.Rows.sortedAll_at s.heap its out.toArray
  refine ⟨.ref (s.heap.objs.size + 1), upd H (s.heap.objs.size + 1) (.lst ((bs.mergeSort (PySem.W.dataLe false (·.2))).map (·.1))), I.laid (t' := s.toks) (fun _ _ => PyProof.Rows.sortedAll_old) (Nat.le_succ _) ⟨?_, out, n, vals_of_each eo, hn⟩, rfl, q _ (I.hok.fresh (Nat.le_succ _))⟩
  rw [List.length_map, List.length_mergeSort]
  exact hzb
end
def tupB : PyData → Bool
  | .tuple (_ :: _) => true
  | _ => false
def sortB (ps : List PyData) : Bool := ps.all (fun d => ps.all fun d' => PySem.W.alike d d') && (ps.all tupB && ps.all fun d => decide (d.depth ≤ 50))
def sortedX : D → Res D
  | .lst xs => match toPy.toPys xs with
    | some ps => if sortB ps = true then .ok (.lst (((xs.zip ps).mergeSort (PySem.W.dataLe false (·.2))).map (·.1))) else .bad
    | none => .bad
  | _ => .bad
theorem rep_all_map {G : GC} {F : Hp} : ∀ {T : List (V × D × PyData)}, (∀ t ∈ T, Rep G F t.1 t.2.1) → RepAll G F (T.map (·.1)) (T.map (·.2.1))
  | [], _ => .nil
  | t :: T, h => .cons (h t List.mem_cons_self) (rep_all_map fun u hu => h u (List.mem_cons_of_mem _ hu))
/-- the three rows side by side -/
theorem rows3 {G : GC} {F H : Hp} : ∀ {vs : List V} {xs : List D} {ps : List PyData}, RepAll G F vs xs → DpAll G.K H vs ps → ∃ T : List (V × D × PyData), T.map (·.1) = vs ∧ T.map (·.2) = xs.zip ps ∧ T.map (·.2.2) = ps ∧ (∀ t ∈ T, Rep G F t.1 t.2.1) ∧ ∀ t ∈ T, Dp G.K H t.1 t.2.2
  | _, _, _, .nil, .nil => ⟨[], rfl, rfl, rfl, by simp, by simp⟩
  | _, _, _, .cons r rt, .cons d dt => by
    obtain ⟨T, h1, h2, h3, h4, h5⟩ := rows3 rt dt
    refine ⟨(_, _, _) :: T, by rw [List.map_cons, h1], by rw [List.map_cons, h2, List.zip_cons_cons], by rw [List.map_cons, h3], fun t ht => ?_, fun t ht => ?_⟩
    · rcases List.mem_cons.mp ht with rfl | ht
      · exact r
      · exact h4 t ht
    · rcases List.mem_cons.mp ht with rfl | ht
      · exact d
      · exact h5 t ht
theorem tupB_some {p : PyData} (h : tupB p = true) : ∃ x r, p = .tuple (x :: r) := by
  unfold tupB at h
  split at h
  · exact ⟨_, _, rfl⟩
  · cases h
section
variable {X : Cx}
theorem ne_sortedX : noEr1 sortedX := fun d e z => by
  unfold sortedX at z
  split at z
  · split at z
    · split at z <;> cases z
    · cases z
  · cases z
theorem b_sortedX {k : Nat} (hr : Room k X.A) (hm : X.mg "sorted" = none) : BlM X "sorted" (.O .flat) (one sortedX) := BlM.b hm boot_sorted (call_sortedX (units65 hr)) (ne_one ne_sortedX) (cal_one fun F H x a d Q s ra e q => by
  unfold sortedX at e
  split at e
  · rename_i xs
    split at e
    · rename_i ps hps
      split at e <;> cases e
      rename_i hb
      unfold sortB at hb
      rw [Bool.and_eq_true, Bool.and_eq_true] at hb
      obtain ⟨b1, b2, b3⟩ := hb
      obtain ⟨p, vs, rfl, h1, h2⟩ := RdD.lst s (show RdD (gOf X) F H x _ from ra)
      obtain ⟨T, t1, t2, t3, t4, t5⟩ := rows3 h2 (RepAll.dp s h2 hps)
      have e1 : (T.map fun t => (t.1, t.2.2)).map (·.1) = vs := by rw [List.map_map]; exact t1
      have e2 : (T.map fun t => (t.1, t.2.2)).map (·.2) = ps := by rw [List.map_map]; exact t3
      have eb : (T.map fun t => (t.1, t.2.2)).mergeSort (PySem.W.dataLe false (·.2)) = (T.mergeSort (PySem.W.dataLe false (·.2.2))).map fun t => (t.1, t.2.2) := (List.map_mergeSort (f := fun t : V × D × PyData => (t.1, t.2.2)) (r := PySem.W.dataLe false (·.2.2)) (s := PySem.W.dataLe false (·.2)) fun a _ b _ => rfl).symm
      have ex : (xs.zip ps).mergeSort (PySem.W.dataLe false (·.2)) = (T.mergeSort (PySem.W.dataLe false (·.2.2))).map (·.2) := by
        rw [← t2]
        exact (List.map_mergeSort (f := fun t : V × D × PyData => t.2) (r := PySem.W.dataLe false (·.2.2)) (s := PySem.W.dataLe false (·.2)) fun a _ b _ => rfl).symm
      rw [ex, List.map_map] at q
      have rr : RepAll (gOf X) F ((T.mergeSort (PySem.W.dataLe false (·.2.2))).map (·.1)) ((T.mergeSort (PySem.W.dataLe false (·.2.2))).map (·.2.1)) := rep_all_map fun t ht => t4 t (List.mem_mergeSort.mp ht)
      refine ⟨p, T.map fun t => (t.1, t.2.2), rfl, by rw [e1]; exact .of h1, fun b hb => ?_, ?_, ?_, fun b hb => ?_, fun l hl => ?_⟩
      · obtain ⟨t, ht, rfl⟩ := List.mem_map.mp hb
        exact t5 t ht
      · rw [e2]
        intro d hd d' hd'
        exact List.all_eq_true.mp (List.all_eq_true.mp b1 d hd) d' hd'
      · rw [e2]
        exact .inl fun d hd => tupB_some (List.all_eq_true.mp b2 d hd)
      · have : b.2 ∈ ps := by rw [← e2]; exact List.mem_map_of_mem hb
        exact of_decide_eq_true (List.all_eq_true.mp b3 _ this)
      · rw [eb, List.map_map]
        exact q _ _ _ (Grow.own s hl) ⟨[l], Own.lst rfl upd_same (s.free hl) (OwnAll.of_rep rr) (by simp), fun a ha => by rw [List.mem_singleton.mp ha]; exact hl⟩
    · cases e
  · cases e)
end
end Mir
namespace Mir
open PySem PySem.Spec PyProof.Rows L2
variable [Tn]
section
variable {X : Cx} {W : Wi}
/-- a thing and what two names own, told together -/
def giveT2 (i j : Nat) (d0 : D) (r : Env) : Oc := match r[i]?, r[j]? with
  | some (.ow .flat d), some (.ow .flat e) => .rt (.tup [d0, d, e])
  | _, _ => .bad
theorem rs_ret2 (i j : Nat) (hij : i ≠ j) {e : Expr} {f : Env → Res D} {x y : Str} {x1} {pos posy p2 p3 : Pos} (he : RE X W .S e f) (hN : X.N[i]? = some x := by rfl) (hv : Vis X.env.scope x := by first | exact Or.inl rfl | exact Or.inr (Or.inl rfl) | exact Or.inr (Or.inr rfl)) (hd : (x == ("__debug__" : Str)) = false := by decide)
    (hcd : (x == ("__classdict__" : Str)) = false := by decide) (hNy : X.N[j]? = some y := by rfl) (hvy : Vis X.env.scope y := by first | exact Or.inl rfl | exact Or.inr (Or.inl rfl) | exact Or.inr (Or.inr rfl)) (hdy : (y == ("__debug__" : Str)) = false := by decide)
    (hcdy : (y == ("__classdict__" : Str)) = false := by decide) (hs1 : starEach (e :: [.Name x pos, .Name y posy]) X.env = (false, eval e X.env) :: starEach [.Name x pos, .Name y posy] X.env := by rfl) (hs2 : starEach [.Name x pos, .Name y posy] X.env = (false, eval (.Name x pos) X.env) :: starEach [.Name y posy] X.env := by rfl) (hs3 : starEach [.Name y posy] X.env = (false, eval (.Name y posy) X.env) :: starEach [] X.env := by rfl) :
    RS X W (.O (.parts [.sh, .flat, .flat])) (.Return (some (.Tuple [e, .Name x pos, .Name y posy] x1 p2)) p3) (fun r => lift (f r) r fun d0 => giveT2 i j d0 r) :=
  (ps_ret (pe_tup (pa_cons he (pa_cons (pe_var hN hv hd hcd) (pa_cons (pe_var hNy hvy hdy hcdy) pa_nil hs3) hs2) hs1))).imp fun D σ H ⟨H0, F0, fp, F, r, m, o⟩ => ⟨H0, F0, fp, F, r, m, o.lift m fun F1 H1 d0 g1 o1 v0 kv => by
    have m1 := m.grow g1
    unfold giveT2 at o1
    split at o1
    · rename_i d d2 h hh
      obtain ⟨⟨v, h1, h2⟩, h3⟩ := m1.ow i _ _ h
      obtain ⟨⟨w, k1, k2⟩, k3⟩ := m1.ow j _ _ hh
      have ap := m1.ap i j _ _ _ _ hij h hh
      refine ⟨v, h1, w, k1, (by rw [sizeLine_eq]; simp), fun t ht => ?_⟩
      have g2 : Grow F1 H1 F1 (upd H1 t (.tup [v0, v, w])) := Grow.own m1.sub ht
      have ow : Own (gOf X) F1 (upd H1 t (.tup [v0, v, w])) .flat v d (fp i) := h2.grow g2
      have ow2 : Own (gOf X) F1 (upd H1 t (.tup [v0, v, w])) .flat w d2 (fp j) := k2.grow g2
      have oa : OwnAll (gOf X) F1 (upd H1 t (.tup [v0, v, w])) (Shape.parts [.sh, .flat, .flat]).kid 0 [v0, v, w] [d0, d, d2] ([] ++ (fp i ++ (fp j ++ []))) := OwnAll.cons (.sh kv) (OwnAll.cons ow (OwnAll.cons ow2 .nil (by simp)) (by simpa using ap)) (by simp)
      have tn : t ∉ ([] ++ (fp i ++ (fp j ++ [])) : List Addr) := fun hm => by
        rw [List.nil_append, List.append_nil, List.mem_append] at hm
        rcases hm with hm | hm
        · obtain ⟨_, u, z⟩ := h2.there t hm
          rw [ht] at z
          cases z
        · obtain ⟨_, u, z⟩ := k2.there t hm
          rw [ht] at z
          cases z
      refine o1 F1 _ (.ref t) (Same.refl _) (m1.grow g2).g0 ⟨t :: ([] ++ (fp i ++ (fp j ++ []))), Own.tup rfl upd_same (m1.sub.free ht) oa tn, fun a ha => ?_⟩
      rcases List.mem_cons.mp ha with rfl | q
      · exact m1.g0.h.free ht
      · rw [List.nil_append, List.append_nil, List.mem_append] at q
        rcases q with q | q
        · exact h3 a q
        · exact k3 a q
    · exact o1.elim⟩
end
end Mir
namespace Mir
open PySem PySem.Spec PyProof.Rows L2
variable [Tn]
/-- the first key's hash -/
def hd0 : List D → Option Int
  | k :: _ => (keyOf k).bind nh
  | [] => none
end Mir
namespace Mir
open PySem PySem.Spec PyProof.Rows L2
variable [Tn]
section
variable {X : Cx} {W : Wi} {k : Kd}
theorem PG.or {e : Expr} {t1 t2 : TG} (h1 : PG X e t1) (h2 : PG X e t2) : PG X e (fun v σ H Q => t1 v σ H Q ∨ t2 v σ H Q) :=
  ⟨fun pins s σ H v u Q I r hw => hw.elim (fun h => h1.run pins s σ H v u Q I r h) fun h => h2.run pins s σ H v u Q I r h⟩
end
end Mir
namespace Mir
open PySem PySem.Spec PyProof.Rows L2
variable [Tn]
mutual
theorem reads_in {h : Heap} : ∀ {v : Value} {d : PyData} {as : List Addr}, Reads h v d as → ∀ b ∈ as, ∃ o, h.get? b = some o
  | _, _, _, .none, _, m => nomatch m
  | _, _, _, .bool _, _, m => nomatch m
  | _, _, _, .int _ _, _, m => nomatch m
  | _, _, _, .str _ _, _, m => nomatch m
  | _, _, _, .list ho _ _ r, b, m => by
    rcases List.mem_cons.mp m with rfl | m
    · exact ⟨_, ho⟩
    · exact readsAll_in r b m
  | _, _, _, .tuple _ _ _ r, b, m => readsAll_in r b m
  | _, _, _, .dict ho _ _ r1 r2, b, m => by
    rcases List.mem_cons.mp m with rfl | m
    · exact ⟨_, ho⟩
    · rcases List.mem_append.mp m with m | m
      · exact readsAll_in r1 b m
      · exact readsAll_in r2 b m
theorem readsAll_in {h : Heap} : ∀ {vs : List Value} {ds : List PyData} {as : List Addr}, ReadsAll h vs ds as → ∀ b ∈ as, ∃ o, h.get? b = some o
  | _, _, _, .nil, _, m => nomatch m
  | _, _, _, .cons r t, b, m => by
    rcases List.mem_append.mp m with m | m
    · exact reads_in r b m
    · exact readsAll_in t b m
end
theorem dpAll_zip {K : PySem.W.Frag} {H : Hp} : ∀ {vs : List V} {ps : List PyData}, DpAll K H vs ps → ((vs.zip ps).map (·.1) = vs ∧ (vs.zip ps).map (·.2) = ps) ∧ ∀ b ∈ vs.zip ps, Dp K H b.1 b.2
  | _, _, .nil => ⟨⟨rfl, rfl⟩, by simp⟩
  | _, _, .cons r t => by
    obtain ⟨⟨h1, h2⟩, h3⟩ := dpAll_zip t
    refine ⟨⟨by rw [List.zip_cons_cons, List.map_cons, h1], by rw [List.zip_cons_cons, List.map_cons, h2]⟩, fun b hb => ?_⟩
    rw [List.zip_cons_cons] at hb
    rcases List.mem_cons.mp hb with rfl | hb
    · exact r
    · exact h3 b hb
end Mir
namespace Mir
open PySem PySem.Spec PyProof.Rows L2
variable [Tn]
theorem re_never {X : Cx} {W : Wi} {k : Kd} {e : Expr} : RE X W k e (fun _ => .bad) := ⟨fun _ _ _ _ _ _ ⟨_, _, _, _, _, _, o⟩ => o.elim⟩
end Mir
namespace Mir
open PySem PySem.Spec PyProof.Rows L2
variable [Tn]
/-- a view of a dict's values -/
def vwO (d : Addr) : Obj := { cls := .type "dict_values", data := .fields #[.ref d] }
def tVals (G : GC) (td : TE) : TE := fun σ H Q => td σ H fun v H1 => ∃ (d : Addr) (o : Obj) (xs : List EN), v = .ref d ∧ H1 d = some (.ext (isObj' d o)) ∧ (d == sysModules) = false ∧ DicO G o xs ∧ ∀ a, H1 a = none → Q (.ref a) (upd H1 a (.ext (isObj' a (vwO d))))
section
variable {X : Cx} {e : Expr} {td : TE} {apos cpos : Pos}
theorem pe_vals (he : PE X e td) (hbase : attributeBase e "values" X.env (eval e X.env) = eval e X.env := by rfl) (hline : (apos.endLine == cpos.line) = true := by rfl) : PE X (.Call (.Attribute e "values" apos) [] [] cpos) (tVals (gOf X) td) := by
  refine ⟨fun pins s σ H Q I h => ?_⟩
  refine wpAny_Call_method (T := "dict") (id := "dict.values") hbase rfl hline F.plainAttrs_dict F.slot_dict_values F.type_dict_values (thn (he.run pins s σ H _ I h) fun u s1 ⟨x, H1, I1, rx, d, o, xs, ex, hd, hn, dd, q⟩ => ?_)
  subst ex
  obtain rfl : u = Value.ref d := rx
  obtain ⟨es, ep, h1, h2⟩ := dd.dat
  have hr := ext_raw I1 hd dd.ex h1
  have ho : s1.heap.get? d = some o := (I1.hok d _ hd).1
  refine ⟨hr.typeIs, fun a ea => by cases ea; exact ⟨o, ho, dd.ex.2.1⟩, ?_⟩
  have hf := I1.hok.fresh (Nat.le_refl s1.heap.objs.size)
  show wpAny _ _ (callWith cpos (.builtin "dict.values") [.ref d] [] []) _ X.xe s1
  refine method_meetsIn F.slot_dict_values F.entry_dict_values rfl (PySem.evalArgs_none ⟨rfl, hr.typeIs, F.args_dict_values_1 _, _, meets_dict_values_raw d hn, ⟨es, ep, hr⟩, ?_⟩)
  exact ⟨.ref s1.heap.objs.size, _, I1.laid (a := s1.heap.objs.size) (o := .ext (isObj' s1.heap.objs.size (vwO d))) (t' := s1.toks) (fun _ _ q => Heap.get?_push_of_some _ q) (Nat.le_refl _) (ext_ok (Heap.get?_push_size _ rfl)), rfl, q _ hf⟩
def rSortV (X : Cx) : List V → Hp → VK → Prop := fun vs H Q => ∃ (a p : Addr) (o : Obj) (xs : List EN) (ws : List V) (ps : List PyData), vs = [.ref a] ∧ H a = some (.ext (isObj' a (vwO p))) ∧ H p = some (.ext (isObj' p o)) ∧ DicO (gOf X) o xs ∧ Vals ws (xs.map (·.2.2)) ∧
  DpAll X.K H ws ps ∧ PySem.W.AllAlike ps ∧ PySem.W.Sortable ps ∧ (∀ b ∈ ps, b.depth ≤ 50) ∧
  ∀ l, H l = none → Q (.ref l) (upd H l (.lst (((ws.zip ps).mergeSort (PySem.W.dataLe false (·.2))).map (·.1))))
theorem call_sortedV (hcalm : X.calm = true) (hu : X.A.units + 65 < cLine) : CallR X (.builtin "sorted") (rSortV X) := by
  intro pins s σ H xs us Q I r q
  obtain ⟨a, p, o, es, ws, ps, rfl, ha, hp, dd, hw, hdp, hal, hk, hdep, q⟩ := q
  obtain ⟨u, rfl, rx⟩ := vals1 r
  cases rx
  obtain ⟨⟨z1, z2⟩, z3⟩ := dpAll_zip hdp
  generalize hbs : ws.zip ps = bs at *
  obtain ⟨ar, ep, hd, he⟩ := dd.dat
  have hraw := ext_raw I hp dd.ex hd
  have hsz : ar.size = es.length := by
    have := congrArg List.length he
    rw [List.length_map, Array.length_toList] at this
    exact this
  have hz := dd.sz
  have hview : s.heap.IsValuesView a p := ⟨_, (I.hok a _ ha).1, rfl, rfl⟩
  refine Calls.call_function_entry PyProof.Rows.kind_sorted PyProof.Rows.plain_sorted PyProof.Rows.entry_sorted (PyProof.Rows.args_sorted1 _) ?_
  unfold Builtin.«sorted»
  refine wpAny_bind (m := checkCount "sorted" 1 1 _) (wpAny_pure ?_)
  refine wpAny_bind (PySem.W.kdu_collect (A := X.A.in1) (KdlSrc.rawValues (ep := ep)) (I.ok.hd hcalm) ⟨hview, hraw⟩ (by rw [hsz]; exact hz) fun h' tk acc hk' hacc => ?_)
  have ea : acc.toList = es.map (·.2.2) := by
    refine List.ext_getElem? fun j => ?_
    rw [Array.getElem?_toList, List.getElem?_map]
    cases e : acc[j]? with
    | none =>
      have hj : acc.size ≤ j := Array.getElem?_eq_none_iff.mp e
      rw [hacc.1, hsz] at hj
      rw [List.getElem?_eq_none hj]
      rfl
    | some v =>
      obtain ⟨hi, rfl⟩ := hacc.2 j v e
      obtain ⟨x, e1, e2, e3⟩ := ent_at he hi
      rw [e1, e3]
      rfl
  have I1 : Inv X pins σ H { s with heap := h', toks := tk } := I.kept hk'
  have al : acc.toList.length = es.length := by rw [ea, List.length_map]
  refine wpAny_bind (wpAny_newList ?_ (by rw [al]; exact hz))
  have hoL : (h'.push (seqObj "list" acc.toList.toArray 0)).get? h'.objs.size = some (seqObj "list" acc.toList.toArray 0) := Heap.get?_push_size _ rfl
  show wpAny _ _ _ _ _ { s with heap := h'.push (seqObj "list" acc.toList.toArray 0), toks := tk }
  have rv : Vals (bs.map (·.1)) acc.toList := by rw [z1, ea]; exact hw
  have e := each_of_vals rv
  have er : PySem.W.EachIs (fun v (b : V × PyData) => ∃ as, Reads (h'.push (seqObj "list" acc.toList.toArray 0)) v b.2 as ∧ h'.objs.size ∉ as) acc.toList bs := each_and e fun b hb v rb => by
    obtain ⟨as, ra⟩ := Dp.reads I1 b.2 b.1 v (z3 b hb) rb
    refine ⟨as, PyProof.Rows.Reads.keeps (fun _ _ h => Heap.get?_push_of_some _ h) ra, fun hm => ?_⟩
    obtain ⟨o', ho'⟩ := reads_in ra _ hm
    exact absurd (Heap.lt_size ho') (Nat.lt_irrefl _)
  have hzb : bs.length ≤ sizeLine := by
    have h1 := congrArg List.length z1
    have h2 := hw.length
    rw [List.length_map] at h1 h2
    omega
  refine wpAny_bind (wpAny_holding (PySem.W.list_sort_data (R := fun v (b : V × PyData) => RelV b.1 v) (enc := (·.2)) (vs := acc.toList) (bs := bs) (s := { s with heap := h'.push (seqObj "list" acc.toList.toArray 0), toks := tk }) hoL e er (by rw [z2]; exact hal) (by rw [z2]; exact hk) hzb (fun b hb => by
    have : b.2 ∈ ps := by rw [← z2]; exact List.mem_map_of_mem hb
    have := hdep _ this
    show X.A.units + 1 + 1 + _ < cLine
    omega) fun out ho eo => ?_))
  obtain ⟨e', he'⟩ := PyProof.Rows.sortedHeap_at (vs := acc.toList) (out := out.toArray) hoL
  have rvo := vals_of_each eo
  refine wpAny_pure ⟨_, rfl, .ref h'.objs.size, upd H h'.objs.size (.lst ((bs.mergeSort (PySem.W.dataLe false (·.2))).map (·.1))), I1.laid (t' := tk) (fun b u e => ?_) (Nat.le_refl _)
    (show ObjOk X.prog X.w _ _ _ (.lst _) from ⟨by rw [List.length_map, List.length_mergeSort]; exact hzb, out, e', rvo, he'⟩), rfl, q _ (I1.hok.fresh (Nat.le_refl _))⟩
  have hb : b < h'.objs.size := Heap.lt_size e
  rw [PyProof.Rows.sortedHeap_old (Nat.ne_of_lt hb) (by rw [size_push']; exact Nat.lt_succ_of_lt hb)]
  exact Heap.get?_push_of_some _ e
end
end Mir
namespace Mir
open PySem PySem.Spec PyProof.Rows L2
variable [Tn]
/-- a list taken apart -/
def lstG (n : Nat) (gs : List D → Env → Res Env) : D → Env → Res Env := fun d r => match d with
  | .lst ds => if ds.length = n then gs ds r else .bad
  | _ => .bad
@[simp] theorem lstG_lst (n : Nat) (gs : List D → Env → Res Env) (ds : List D) (r : Env) : lstG n gs (.lst ds) r = if ds.length = n then gs ds r else .bad := rfl
end Mir
namespace Mir
open PySem PySem.Spec PyProof.Rows L2
variable [Tn]
def revD : D → Res D
  | .lst ds => .ok (.lst ds.reverse)
  | _ => .bad
section
variable {X : Cx} {W : Wi}
theorem re_rev {k : Nat} {e : Expr} {fe : Env → Res D} {p1 p2 p3 pos : Pos} (he : RE X W .R e fe) : RE X W (.O .flat) (.Subscript e (.Slice none none (some (.UnaryOp .USub (.Constant (.int 1) k p1) p2)) p3) pos) (fun r => fe r >>= revD) :=
  (pe_revL he).imp fun σ H Q ⟨H0, F0, fp, F, r, m, o⟩ => ⟨H0, F0, fp, F, r, m, o.bind fun F' H' d gr o2 v kv => by
    unfold revD at o2
    split at o2
    · rename_i ds
      obtain ⟨a, vs, rfl, h1, r1⟩ := (show RdD (gOf X) F' H' v _ from kv).lst gr.sub
      refine ⟨a, vs, rfl, .of h1, fun p hp => ?_⟩
      exact o2 _ _ (Grow.own gr.sub hp) _ ⟨[p], Own.lst rfl upd_same (gr.sub.free hp) (OwnAll.of_rep r1.reverse) (by simp), fun b hb => by rw [List.mem_singleton.mp hb]; exact gr.h.free hp⟩
    · exact o2.elim⟩
end
end Mir
namespace Mir
open PySem PySem.Spec PyProof.Rows L2
variable [Tn]
def rSortVS (X : Cx) : List V → Hp → VK → Prop := fun vs H Q => rSortV X vs H Q ∨ ∃ (a p : Addr) (o : Obj) (xs : List EN) (ws : List V), vs = [.ref a] ∧ H a = some (.ext (isObj' a (vwO p))) ∧ H p = some (.ext (isObj' p o)) ∧ DicO (gOf X) o xs ∧ Vals ws (xs.map (·.2.2)) ∧ ws.length < 2 ∧
  ∀ l, H l = none → Q (.ref l) (upd H l (.lst ws))
section
variable {X : Cx}
theorem call_sortedVS (hcalm : X.calm = true) (hu : X.A.units + 65 < cLine) : CallR X (.builtin "sorted") (rSortVS X) := by
  intro pins s σ H xs us Q I r q
  rcases q with q | q
  · exact call_sortedV hcalm hu pins s σ H xs us Q I r q
  obtain ⟨a, p, o, es, ws, rfl, ha, hp, dd, hw, hl2, q⟩ := q
  obtain ⟨u, rfl, rx⟩ := vals1 r
  cases rx
  obtain ⟨ar, ep, hd, he⟩ := dd.dat
  have hraw := ext_raw I hp dd.ex hd
  have hsz : ar.size = es.length := by
    have := congrArg List.length he
    rw [List.length_map, Array.length_toList] at this
    exact this
  have hz := dd.sz
  have hview : s.heap.IsValuesView a p := ⟨_, (I.hok a _ ha).1, rfl, rfl⟩
  refine Calls.call_function_entry PyProof.Rows.kind_sorted PyProof.Rows.plain_sorted PyProof.Rows.entry_sorted (PyProof.Rows.args_sorted1 _) ?_
  unfold Builtin.«sorted»
  refine wpAny_bind (m := checkCount "sorted" 1 1 _) (wpAny_pure ?_)
  refine wpAny_bind (PySem.W.kdu_collect (A := X.A.in1) (KdlSrc.rawValues (ep := ep)) (I.ok.hd hcalm) ⟨hview, hraw⟩ (by rw [hsz]; exact hz) fun h' tk acc hk' hacc => ?_)
  have ea : acc.toList = es.map (·.2.2) := by
    refine List.ext_getElem? fun j => ?_
    rw [Array.getElem?_toList, List.getElem?_map]
    cases e : acc[j]? with
    | none =>
      have hj : acc.size ≤ j := Array.getElem?_eq_none_iff.mp e
      rw [hacc.1, hsz] at hj
      rw [List.getElem?_eq_none hj]
      rfl
    | some v =>
      obtain ⟨hi, rfl⟩ := hacc.2 j v e
      obtain ⟨x, e1, e2, e3⟩ := ent_at he hi
      rw [e1, e3]
      rfl
  have I1 : Inv X pins σ H { s with heap := h', toks := tk } := I.kept hk'
  have al : acc.toList.length = es.length := by rw [ea, List.length_map]
  refine wpAny_bind (wpAny_newList ?_ (by rw [al]; exact hz))
  have hoL : (h'.push (seqObj "list" acc.toList.toArray 0)).get? h'.objs.size = some (seqObj "list" acc.toList.toArray 0) := Heap.get?_push_size _ rfl
  show wpAny _ _ _ _ _ { s with heap := h'.push (seqObj "list" acc.toList.toArray 0), toks := tk }
  have rv : Vals ws acc.toList := by rw [ea]; exact hw
  have l2 : acc.toList.length < 2 := by rw [← rv.length]; exact hl2
  have hzb : acc.toList.length ≤ sizeLine := by rw [al]; exact hz
  refine wpAny_bind (wpAny_holding (wpAny_call_entry F.slot_list_sort ⟨_, hoL, rfl⟩ F.entry_list_sort (Srt.list_sort_any (s := { s with heap := h'.push (seqObj "list" acc.toList.toArray 0), toks := tk }) hoL hzb (fun h2 => absurd h2 (by omega)) fun out ho => ⟨_, rfl, ?_⟩) (F.args_list_sort_1 _)))
  obtain rfl : out = acc.toList := by
    have hl := ho.length_eq
    generalize acc.toList = ys at *
    match ys, out, hl, l2, ho with
    | [], [], _, _, _ => rfl
    | [y], [z], _, _, ho => exact List.perm_singleton.mp ho
    | _ :: _ :: _, _, _, l2, _ => simp at l2; omega
  obtain ⟨e', he'⟩ := PyProof.Rows.sortedHeap_at (vs := acc.toList) (out := acc.toList.toArray) hoL
  refine wpAny_pure ⟨_, rfl, .ref h'.objs.size, upd H h'.objs.size (.lst ws), I1.laid (t' := tk) (fun b u e => ?_) (Nat.le_refl _)
    (show ObjOk X.prog X.w _ _ _ (.lst _) from ⟨by rw [rv.length]; exact hzb, acc.toList, e', rv, he'⟩), rfl, q _ (I1.hok.fresh (Nat.le_refl _))⟩
  have hb : b < h'.objs.size := Heap.lt_size e
  rw [PyProof.Rows.sortedHeap_old (Nat.ne_of_lt hb) (by rw [size_push']; exact Nat.lt_succ_of_lt hb)]
  exact Heap.get?_push_of_some _ e
end
def sortedVS : D → Res D
  | .dic _ vs => if vs.length < 2 then .ok (.lst vs) else match toPy.toPys vs with
    | some ps => if sortB ps = true then .ok (.lst (((vs.zip ps).mergeSort (PySem.W.dataLe false (·.2))).map (·.1))) else .bad
    | none => .bad
  | _ => .bad
section
variable {X : Cx} {W : Wi}
theorem re_sortVS {k : Nat} {e : Expr} {fe : Env → Res D} {p apos cpos pos : Pos} (hr : Room k X.A) (hc : X.calm = true) (hm : X.mg "sorted" = none) (he : RE X W .R e fe) (hg : Gl X "sorted" := by rfl) (hbase : attributeBase e "values" X.env (eval e X.env) = eval e X.env := by rfl) (hline : (apos.endLine == cpos.line) = true := by rfl)
    (hs : starEach [.Call (.Attribute e "values" apos) [] [] cpos] X.env = (false, eval (.Call (.Attribute e "values" apos) [] [] cpos) X.env) :: starEach [] X.env := by rfl) (hpl : (backTo pos (starEach ([] : List Expr) X.env)).any (·.1) = false := by rfl) :
    RE X W (.O .flat) (.Call (.Name "sorted" p) [.Call (.Attribute e "values" apos) [] [] cpos] [] pos) (fun r => fe r >>= sortedVS) :=
  (pe_callB (call_sortedVS hc (units65 hr)) hg hm boot_sorted (pa_cons (pe_vals he hbase hline) pa_nil hs) (by decide) (by decide) hs hpl).imp fun σ H Q ⟨H0, F0, fp, F, r, m, o⟩ => ⟨H0, F0, fp, F, r, m, o.bind fun F' H' d gr o2 v kv => by
    unfold sortedVS at o2
    split at o2
    · rename_i ks vs
      split at o2
      · rename_i hl
        obtain ⟨p, o, xs, ws, rfl, h1, h2, h3, h4⟩ := RdD.dr gr.sub (show RdD (gOf X) F' H' v _ from kv)
        refine ⟨p, o, xs, rfl, h1, h2, h3, fun a hfa => ?_⟩
        have gu : Grow F' H' F' (upd H' a (.ext (isObj' a (vwO p)))) := Grow.own gr.sub hfa
        have vr := h4.vr
        have hpa : p ≠ a := fun e => by
          subst e
          rw [hfa] at h1
          cases h1
        refine .inr ⟨a, p, o, xs, ws, rfl, upd_same, by rw [upd_ne hpa]; exact h1, h3, h4.wv, by rw [vr.length]; exact hl, fun l hl => ?_⟩
        have gl : Grow F' H' F' (upd (upd H' a (.ext (isObj' a (vwO p)))) l (.lst ws)) := gu.trans (Grow.own gu.sub hl)
        exact o2 _ _ gl _ ⟨[l], Own.lst rfl upd_same (gu.sub.free hl) (OwnAll.of_rep vr) (by simp), fun b hb => by rw [List.mem_singleton.mp hb]; exact gr.h.free (gu.h.free hl)⟩
      · split at o2
        · rename_i ps hps
          split at o2
          · rename_i hb
            unfold sortB at hb
            rw [Bool.and_eq_true, Bool.and_eq_true] at hb
            obtain ⟨b1, b2, b3⟩ := hb
            obtain ⟨p, o, xs, ws, rfl, h1, h2, h3, h4⟩ := RdD.dr gr.sub (show RdD (gOf X) F' H' v _ from kv)
            refine ⟨p, o, xs, rfl, h1, h2, h3, fun a hfa => ?_⟩
            have gu : Grow F' H' F' (upd H' a (.ext (isObj' a (vwO p)))) := Grow.own gr.sub hfa
            have vr := h4.vr
            obtain ⟨T, t1, t2, t3, t4, t5⟩ := rows3 vr (RepAll.dp gu.sub vr hps)
            have hpa : p ≠ a := fun e => by
              subst e
              rw [hfa] at h1
              cases h1
            refine .inl ⟨a, p, o, xs, ws, ps, rfl, upd_same, by rw [upd_ne hpa]; exact h1, h3, h4.wv, RepAll.dp gu.sub vr hps, fun d hd d' hd' => List.all_eq_true.mp (List.all_eq_true.mp b1 d hd) d' hd', .inl fun d hd => tupB_some (List.all_eq_true.mp b2 d hd), fun b hb => of_decide_eq_true (List.all_eq_true.mp b3 _ hb), fun l hl => ?_⟩
            have eb : (ws.zip ps).mergeSort (PySem.W.dataLe false (·.2)) = (T.mergeSort (PySem.W.dataLe false (·.2.2))).map fun t => (t.1, t.2.2) := by
              have z : ws.zip ps = T.map fun t => (t.1, t.2.2) := by
                rw [← t1, ← t3]
                clear t1 t2 t3 t4 t5
                induction T with
                | nil => rfl
                | cons t T ih => rw [List.map_cons, List.map_cons, List.zip_cons_cons, ih, List.map_cons]
              rw [z]
              exact (List.map_mergeSort (f := fun t : V × D × PyData => (t.1, t.2.2)) (r := PySem.W.dataLe false (·.2.2)) (s := PySem.W.dataLe false (·.2)) fun a _ b _ => rfl).symm
            have ex : (vs.zip ps).mergeSort (PySem.W.dataLe false (·.2)) = (T.mergeSort (PySem.W.dataLe false (·.2.2))).map (·.2) := by
              rw [← t2]
              exact (List.map_mergeSort (f := fun t : V × D × PyData => t.2) (r := PySem.W.dataLe false (·.2.2)) (s := PySem.W.dataLe false (·.2)) fun a _ b _ => rfl).symm
            rw [ex, List.map_map] at o2
            have rr : RepAll (gOf X) F' ((T.mergeSort (PySem.W.dataLe false (·.2.2))).map (·.1)) ((T.mergeSort (PySem.W.dataLe false (·.2.2))).map (·.2.1)) := rep_all_map fun t ht => t4 t (List.mem_mergeSort.mp ht)
            rw [eb, List.map_map]
            have gl : Grow F' H' F' (upd (upd H' a (.ext (isObj' a (vwO p)))) l (.lst ((T.mergeSort (PySem.W.dataLe false (·.2.2))).map ((·.1) ∘ fun t => (t.1, t.2.2))))) := gu.trans (Grow.own gu.sub hl)
            exact o2 _ _ gl _ ⟨[l], Own.lst rfl upd_same (gu.sub.free hl) (OwnAll.of_rep rr) (by simp), fun b hb => by rw [List.mem_singleton.mp hb]; exact gr.h.free (gu.h.free hl)⟩
          · exact o2.elim
        · exact o2.elim
    · exact o2.elim⟩
end
end Mir
set_option maxHeartbeats 0
namespace Mir.K21
open PySem PySem.Spec PyProof.Rows L2
def top (i : Nat) : Stmt := PySem.Challenge.pw_carrytower_k21_rounds_told_plainly.main.body.getD i (.Pass ⟨0, 0, 0, 0⟩)
section
variable [Tn]
abbrev isC : List Nat := [10, 11, 12, 25, 0]
abbrev isU : List Nat := []
abbrev s_q_cell : Stmt := top 21
abbrev N_q_cell : List Str := ["_law_script", "_law_k", "_law_others", "_law_cell_here"]
theorem sc_q_cell : FnScope N_q_cell ["_law_script", "_law_k"] (defScope s_q_cell) := ⟨rfl, rfl, rfl, by decide +kernel, rfl, by decide +kernel, by decide +kernel⟩
abbrev s_q_rounds : Stmt := top 25
abbrev N_q_rounds : List Str := ["_law_script", "_law_great", "_law_found", "_law_k", "_law_number", "_law_product", "_law_other"]
theorem sc_q_rounds : FnScope N_q_rounds ["_law_script"] (defScope s_q_rounds) := ⟨rfl, rfl, rfl, by decide +kernel, rfl, by decide +kernel, by decide +kernel⟩
abbrev s_q_powers : Stmt := top 26
abbrev N_q_powers : List Str := ["_law_number", "_law_found", "_law_prime", "_law_power"]
theorem sc_q_powers : FnScope N_q_powers ["_law_number"] (defScope s_q_powers) := ⟨rfl, rfl, rfl, by decide +kernel, rfl, by decide +kernel, by decide +kernel⟩
abbrev s_q_due : Stmt := top 27
abbrev N_q_due : List Str := ["_law_rounds_here", "_law_powers_here", "_law_number", "_law_found", "_law_product", "_law_left", "_law_k", "_law_pair"]
theorem sc_q_due : FnScope N_q_due ["_law_rounds_here"] (defScope s_q_due) := ⟨rfl, rfl, rfl, by decide +kernel, rfl, by decide +kernel, by decide +kernel⟩
abbrev s_Rounds_is_even : Stmt := inClass (top 12) 7
abbrev N_Rounds_is_even : List Str := ["self"]
theorem sc_Rounds_is_even : FnScope N_Rounds_is_even ["self"] (defScope s_Rounds_is_even) := ⟨rfl, rfl, rfl, by decide +kernel, rfl, by decide +kernel, by decide +kernel⟩
abbrev s_Uneven_init : Stmt := inClass (top 5) 0
abbrev s_Rounds_members : Stmt := inClass (top 12) 1
abbrev N_Rounds_members : List Str := ["self", "found", "number", "longer", "x", "here"]
theorem sc_Rounds_members : FnScope N_Rounds_members ["self"] (defScope s_Rounds_members) := ⟨rfl, rfl, rfl, by decide +kernel, rfl, by decide +kernel, by decide +kernel⟩
abbrev s_break_of_two : Stmt := top 14
abbrev N_break_of_two : List Str := ["table", "some", "x", "y"]
theorem sc_break_of_two : FnScope N_break_of_two ["table"] (defScope s_break_of_two) := ⟨rfl, rfl, rfl, by decide +kernel, rfl, by decide +kernel, by decide +kernel⟩
abbrev s_Rounds_nought : Stmt := inClass (top 12) 3
abbrev N_Rounds_nought : List Str := ["self", "number"]
theorem sc_Rounds_nought : FnScope N_Rounds_nought ["self"] (defScope s_Rounds_nought) := ⟨rfl, rfl, rfl, by decide +kernel, rfl, by decide +kernel, by decide +kernel⟩
abbrev s_Rounds_put : Stmt := inClass (top 12) 4
abbrev N_Rounds_put : List Str := ["self", "x", "y", "a", "b", "number"]
theorem sc_Rounds_put : FnScope N_Rounds_put ["self", "x", "y"] (defScope s_Rounds_put) := ⟨rfl, rfl, rfl, by decide +kernel, rfl, by decide +kernel, by decide +kernel⟩
abbrev s_times_of : Stmt := top 16
abbrev N_times_of : List Str := ["group", "x", "found"]
theorem sc_times_of : FnScope N_times_of ["group", "x"] (defScope s_times_of) := ⟨rfl, rfl, rfl, by decide +kernel, rfl, by decide +kernel, by decide +kernel⟩
abbrev s_widened : Stmt := top 17
abbrev N_widened : List Str := ["group", "come", "some", "found", "one", "other"]
theorem sc_widened : FnScope N_widened ["group", "come", "some"] (defScope s_widened) := ⟨rfl, rfl, rfl, by decide +kernel, rfl, by decide +kernel, by decide +kernel⟩
abbrev s_parts_of : Stmt := top 18
abbrev N_parts_of : List Str := ["group", "nought", "come", "rows", "found", "best", "row", "x"]
theorem sc_parts_of : FnScope N_parts_of ["group"] (defScope s_parts_of) := ⟨rfl, rfl, rfl, by decide +kernel, rfl, by decide +kernel, by decide +kernel⟩
abbrev s_is_whole : Stmt := top 9
abbrev N_is_whole : List Str := ["thing"]
theorem sc_is_whole : FnScope N_is_whole ["thing"] (defScope s_is_whole) := ⟨rfl, rfl, rfl, by decide +kernel, rfl, by decide +kernel, by decide +kernel⟩
abbrev s_are_rounds : Stmt := top 10
abbrev N_are_rounds : List Str := ["thing", "many", "number"]
theorem sc_are_rounds : FnScope N_are_rounds ["thing"] (defScope s_are_rounds) := ⟨rfl, rfl, rfl, by decide +kernel, rfl, by decide +kernel, by decide +kernel⟩
abbrev s_Rounds_init : Stmt := inClass (top 12) 0
abbrev N_Rounds_init : List Str := ["self", "rounds"]
theorem sc_Rounds_init : FnScope N_Rounds_init ["self", "rounds"] (defScope s_Rounds_init) := ⟨rfl, rfl, rfl, by decide +kernel, rfl, by decide +kernel, by decide +kernel⟩
abbrev s_plainest : Stmt := top 19
abbrev N_plainest : List Str := ["group", "parts", "rounds", "there", "back", "x", "here", "number", "part"]
theorem sc_plainest : FnScope N_plainest ["group"] (defScope s_plainest) := ⟨rfl, rfl, rfl, by decide +kernel, rfl, by decide +kernel, by decide +kernel⟩
abbrev s_q_whole : Stmt := top 22
abbrev N_q_whole : List Str := ["_law_found"]
theorem sc_q_whole : FnScope N_q_whole ["_law_found"] (defScope s_q_whole) := ⟨rfl, rfl, rfl, by decide +kernel, rfl, by decide +kernel, by decide +kernel⟩
abbrev s_q_elements : Stmt := top 23
abbrev N_q_elements : List Str := ["_law_rounds_here", "_law_found", "_law_number", "_law_more", "_law_x", "_law_here"]
theorem sc_q_elements : FnScope N_q_elements ["_law_rounds_here"] (defScope s_q_elements) := ⟨rfl, rfl, rfl, by decide +kernel, rfl, by decide +kernel, by decide +kernel⟩
abbrev s_q_plus : Stmt := top 24
abbrev N_q_plus : List Str := ["_law_rounds_here", "_law_x", "_law_y", "_law_one", "_law_other", "_law_number"]
theorem sc_q_plus : FnScope N_q_plus ["_law_rounds_here", "_law_x", "_law_y"] (defScope s_q_plus) := ⟨rfl, rfl, rfl, by decide +kernel, rfl, by decide +kernel, by decide +kernel⟩
abbrev s_q_leads : Stmt := top 28
abbrev N_q_leads : List Str := ["_law_rounds_here", "_law_found", "_law_script", "_law_told", "_law_there", "_law_back", "_law_some", "_law_heads", "_law_pairs", "_law_x", "_law_k", "_law_one", "_law_at", "_law_y"]
theorem sc_q_leads : FnScope N_q_leads ["_law_rounds_here", "_law_found", "_law_script"] (defScope s_q_leads) := ⟨rfl, rfl, rfl, by decide +kernel, rfl, by decide +kernel, by decide +kernel⟩
abbrev s_law : Stmt := top 29
abbrev N_law : List Str := ["_law_script", "_law_rounds_here", "_law_due_here", "_law_turn", "_law_found", "_law_number"]
theorem sc_law : FnScope N_law ["_law_script"] (defScope s_law) := ⟨rfl, rfl, rfl, by decide +kernel, rfl, by decide +kernel, by decide +kernel⟩
def e_q_cell : Env → Oc := fun r => (lift ((((getS 0 r) >>= fun d => (.ok []) >>= fun ds => .ok (d :: ds)) >>= one lenD) >>= fun x => (.ok (.int 1)) >>= fun y => subD x y) r fun d => .nx (r.set 2 (.sh d))).seq fun r => ((lift ((((getS 2 r) >>= fun x => (.ok (.int 0)) >>= fun y => gtD x y) >>= asB) >>= fun t => if t = true then (((((getS 0 r) >>= fun x => (.ok (.int 0)) >>= fun y => ixD x y) >>= fun x => (.ok (.int 2)) >>= fun y => modD x y) >>= fun x => (.ok (.int 1)) >>= fun y => eqD x y) >>= asB) else .ok false) r fun t => if t = true then (lift ((((getS 0 r) >>= fun x => ((.ok (.int 1)) >>= fun x => ((getS 1 r) >>= fun x => (getS 2 r) >>= fun y => modD x y) >>= fun y => addD x y) >>= fun y => ixD x y) >>= fun x => ((.ok (.int 31)) >>= fun x => ((getS 1 r) >>= fun x => (getS 2 r) >>= fun y => divD x y) >>= fun y => mulD x y) >>= fun y => shrD x y) >>= fun x => (.ok (.int 2147483648)) >>= fun y => modD x y) r fun d => .rt d) else (.nx r)).seq fun r => ((lift (.ok (.int 0)) r fun d => .nx (r.set 3 (.sh d))).seq fun r => ((lift (((((getS 0 r) >>= fun d => (.ok []) >>= fun ds => .ok (d :: ds)) >>= one lenD) >>= fun x => (.ok (.int 0)) >>= fun y => gtD x y) >>= asB) r fun t => if t = true then (lift (((getS 0 r) >>= fun x => ((getS 1 r) >>= fun x => (((getS 0 r) >>= fun d => (.ok []) >>= fun ds => .ok (d :: ds)) >>= one lenD) >>= fun y => modD x y) >>= fun y => ixD x y) >>= fun x => ((.ok (.int 10)) >>= fun x => (.ok (.int 18)) >>= fun y => powD x y) >>= fun y => modD x y) r fun d => .nx (r.set 3 (.sh d))) else (.nx r)).seq fun r => (lift ((((((getS 3 r) >>= fun x => (.ok (.int 48271)) >>= fun y => mulD x y) >>= fun x => ((.ok (.int 16807)) >>= fun x => (getS 1 r) >>= fun y => mulD x y) >>= fun y => addD x y) >>= fun x => (.ok (.int 2147483647)) >>= fun y => modD x y) >>= fun x => (.ok (.int 69621)) >>= fun y => mulD x y) >>= fun x => (.ok (.int 2147483629)) >>= fun y => modD x y) r fun d => .rt d))))
def d_q_cell : List D → Res D := runD 2 N_q_cell.length e_q_cell
def q_rounds_l1 : D → Env → Oc := fun d r => (into ((nameG 6) d r)).seq fun r => (lift ((getS 5 r) >>= fun x => (getS 6 r) >>= fun y => mulD x y) r fun d => .nx (r.set 5 (.sh d)))
def q_rounds_l2 : D → Env → Oc := fun d r => (into ((nameG 3) d r)).seq fun r => ((lift ((.ok (.int 2)) >>= fun x => ((((getS 0 r) >>= fun d => (((.ok (.int 1)) >>= fun x => (getS 3 r) >>= fun y => addD x y) >>= fun d => (.ok []) >>= fun ds => .ok (d :: ds)) >>= fun ds => .ok (d :: ds)) >>= d_q_cell) >>= fun x => ((((.ok (.int 11)) >>= fun d => ((.ok (.int 5)) >>= fun d => ((.ok (.int 3)) >>= fun d => ((.ok (.int 3)) >>= fun d => (.ok []) >>= fun ds => .ok (d :: ds)) >>= fun ds => .ok (d :: ds)) >>= fun ds => .ok (d :: ds)) >>= fun ds => .ok (d :: ds)) >>= lstD) >>= fun x => (getS 3 r) >>= fun y => ixD x y) >>= fun y => modD x y) >>= fun y => addD x y) r fun d => .nx (r.set 4 (.sh d))).seq fun r => ((lift (getS 4 r) r fun d => .nx (r.set 5 (.sh d))).seq fun r => ((lift ((getR 2 r) >>= itemsD) r fun ds => forH 2 q_rounds_l1 ds r).seq fun r => (lift (((getS 5 r) >>= fun x => (.ok (.int 144)) >>= fun y => leD x y) >>= asB) r fun t => if t = true then (appG 2 (fun r => getS 4 r) r) else (.nx r)))))
def e_q_rounds : Env → Oc := fun r => (lift ((((((getS 0 r) >>= fun d => ((.ok (.int 8)) >>= fun d => (.ok []) >>= fun ds => .ok (d :: ds)) >>= fun ds => .ok (d :: ds)) >>= d_q_cell) >>= fun x => (.ok (.int 8)) >>= fun y => modD x y) >>= fun x => (.ok (.int 3)) >>= fun y => eqD x y) >>= asB) r fun t => if t = true then ((lift ((((((.ok (.int 2)) >>= fun d => (.ok []) >>= fun ds => .ok (d :: ds)) >>= tupD) >>= fun x => (.ok (.int 7)) >>= fun y => mulD x y) >>= fun d => ((((.ok (.int 2)) >>= fun d => ((.ok (.int 2)) >>= fun d => ((.ok (.int 2)) >>= fun d => ((.ok (.int 2)) >>= fun d => ((.ok (.int 3)) >>= fun d => (.ok []) >>= fun ds => .ok (d :: ds)) >>= fun ds => .ok (d :: ds)) >>= fun ds => .ok (d :: ds)) >>= fun ds => .ok (d :: ds)) >>= fun ds => .ok (d :: ds)) >>= tupD) >>= fun d => ((((.ok (.int 3)) >>= fun d => ((.ok (.int 3)) >>= fun d => ((.ok (.int 2)) >>= fun d => ((.ok (.int 2)) >>= fun d => ((.ok (.int 4)) >>= fun d => (.ok []) >>= fun ds => .ok (d :: ds)) >>= fun ds => .ok (d :: ds)) >>= fun ds => .ok (d :: ds)) >>= fun ds => .ok (d :: ds)) >>= fun ds => .ok (d :: ds)) >>= tupD) >>= fun d => ((((.ok (.int 12)) >>= fun d => ((.ok (.int 12)) >>= fun d => (.ok []) >>= fun ds => .ok (d :: ds)) >>= fun ds => .ok (d :: ds)) >>= tupD) >>= fun d => ((((.ok (.int 2)) >>= fun d => ((.ok (.int 3)) >>= fun d => ((.ok (.int 4)) >>= fun d => ((.ok (.int 6)) >>= fun d => (.ok []) >>= fun ds => .ok (d :: ds)) >>= fun ds => .ok (d :: ds)) >>= fun ds => .ok (d :: ds)) >>= fun ds => .ok (d :: ds)) >>= tupD) >>= fun d => ((((.ok (.int 6)) >>= fun d => ((.ok (.int 6)) >>= fun d => ((.ok (.int 4)) >>= fun d => (.ok []) >>= fun ds => .ok (d :: ds)) >>= fun ds => .ok (d :: ds)) >>= fun ds => .ok (d :: ds)) >>= tupD) >>= fun d => (((((.ok (.int 2)) >>= fun d => (.ok []) >>= fun ds => .ok (d :: ds)) >>= tupD) >>= fun x => (.ok (.int 6)) >>= fun y => mulD x y) >>= fun d => ((((.ok (.int 9)) >>= fun d => ((.ok (.int 16)) >>= fun d => (.ok []) >>= fun ds => .ok (d :: ds)) >>= fun ds => .ok (d :: ds)) >>= tupD) >>= fun d => (.ok []) >>= fun ds => .ok (d :: ds)) >>= fun ds => .ok (d :: ds)) >>= fun ds => .ok (d :: ds)) >>= fun ds => .ok (d :: ds)) >>= fun ds => .ok (d :: ds)) >>= fun ds => .ok (d :: ds)) >>= fun ds => .ok (d :: ds)) >>= fun ds => .ok (d :: ds)) >>= lstD) r fun d => .nx (r.set 1 (.sh d))).seq fun r => (lift ((getS 1 r) >>= fun x => (((((getS 0 r) >>= fun d => ((.ok (.int 8)) >>= fun d => (.ok []) >>= fun ds => .ok (d :: ds)) >>= fun ds => .ok (d :: ds)) >>= d_q_cell) >>= fun x => (.ok (.int 8)) >>= fun y => divD x y) >>= fun x => (.ok (.int 8)) >>= fun y => modD x y) >>= fun y => ixD x y) r fun d => .rt d)) else (.nx r)).seq fun r => ((lift ((.ok []) >>= lstD) r fun d => .nx (r.set 2 (.ow .flat d))).seq fun r => ((lift ((((((getS 0 r) >>= fun d => ((.ok (.int 0)) >>= fun d => (.ok []) >>= fun ds => .ok (d :: ds)) >>= fun ds => .ok (d :: ds)) >>= d_q_cell) >>= fun x => (.ok (.int 5)) >>= fun y => modD x y) >>= fun d => (.ok []) >>= fun ds => .ok (d :: ds)) >>= rng1) r fun ds => forD (q_rounds_l2) ds r).seq fun r => (lift (((getR 2 r) >>= fun d => (.ok []) >>= fun ds => .ok (d :: ds)) >>= one tupleD) r fun d => .rt d)))
def d_q_rounds : List D → Res D := runD 1 N_q_rounds.length e_q_rounds
def q_powers_w1c : Env → Res Bool := fun r => (((getS 0 r) >>= fun x => ((getS 3 r) >>= fun x => (getS 2 r) >>= fun y => mulD x y) >>= fun y => modD x y) >>= fun x => (.ok (.int 0)) >>= fun y => eqD x y) >>= asB
def q_powers_w1 : Env → Oc := fun r => (lift ((getS 3 r) >>= fun x => (getS 2 r) >>= fun y => mulD x y) r fun d => .nx (r.set 3 (.sh d)))
def q_powers_l2 : D → Env → Oc := fun d r => (into ((nameG 2) d r)).seq fun r => ((lift (.ok (.int 1)) r fun d => .nx (r.set 3 (.sh d))).seq fun r => ((loopD q_powers_w1c q_powers_w1 r).seq fun r => (lift (((getS 3 r) >>= fun x => (.ok (.int 1)) >>= fun y => gtD x y) >>= asB) r fun t => if t = true then (appG 1 (fun r => ((getS 2 r) >>= fun d => ((getS 3 r) >>= fun d => (.ok []) >>= fun ds => .ok (d :: ds)) >>= fun ds => .ok (d :: ds)) >>= tupD) r) else (.nx r))))
def e_q_powers : Env → Oc := fun r => (lift ((.ok []) >>= lstD) r fun d => .nx (r.set 1 (.ow .flat d))).seq fun r => ((lift ((((.ok (.int 2)) >>= fun d => ((.ok (.int 3)) >>= fun d => ((.ok (.int 5)) >>= fun d => ((.ok (.int 7)) >>= fun d => ((.ok (.int 11)) >>= fun d => (.ok []) >>= fun ds => .ok (d :: ds)) >>= fun ds => .ok (d :: ds)) >>= fun ds => .ok (d :: ds)) >>= fun ds => .ok (d :: ds)) >>= fun ds => .ok (d :: ds)) >>= lstD) >>= itemsD) r fun ds => forD (q_powers_l2) ds r).seq fun r => (frzAt 1 (fun r => lift (getS 1 r) r fun d => .rt d) r))
def d_q_powers : List D → Res D := runD 1 N_q_powers.length e_q_powers
def q_due_l1 : D → Env → Oc := fun d r => (into ((nameG 2) d r)).seq fun r => (extG 1 (fun r => ((getS 2 r) >>= fun d => (.ok []) >>= fun ds => .ok (d :: ds)) >>= d_q_powers) r)
def q_due_l2 : D → Env → Oc := fun d r => (into ((tupG 2 (consG (nameG 6) (consG (nameG 7) (nilG)))) d r)).seq fun r => (lift (((((getS 6 r) >>= fun x => (.ok (.int 1)) >>= fun y => addD x y) >>= fun x => (((getS 5 r) >>= fun d => (.ok []) >>= fun ds => .ok (d :: ds)) >>= one lenD) >>= fun y => ltD x y) >>= asB) >>= fun t => if t = true then (((((getS 5 r) >>= fun x => ((getS 6 r) >>= fun x => (.ok (.int 1)) >>= fun y => addD x y) >>= fun y => ixD x y) >>= fun x => (.ok (.int 0)) >>= fun y => ixD x y) >>= fun x => ((getS 7 r) >>= fun x => (.ok (.int 0)) >>= fun y => ixD x y) >>= fun y => eqD x y) >>= asB) else .ok false) r fun t => if t = true then (appG 1 (fun r => getS 7 r) r) else (lift ((getS 4 r) >>= fun x => ((getS 7 r) >>= fun x => (.ok (.int 1)) >>= fun y => ixD x y) >>= fun y => mulD x y) r fun d => .nx (r.set 4 (.sh d))))
def q_due_w3c : Env → Res Bool := fun r => ((((getR 1 r) >>= fun d => (.ok []) >>= fun ds => .ok (d :: ds)) >>= one lenD) >>= fun x => (.ok (.int 0)) >>= fun y => gtD x y) >>= asB
def q_due_w3 : Env → Oc := fun r => ((lift (.ok (.int 1)) r fun d => .nx (r.set 4 (.sh d))).seq fun r => ((lift (((getR 1 r) >>= fun d => (.ok []) >>= fun ds => .ok (d :: ds)) >>= one sortedX) r fun d => .nx (r.set 5 (.sh d))).seq fun r => ((lift ((.ok []) >>= lstD) r fun d => .nx (r.set 1 (.ow .flat d))).seq fun r => ((lift (((getS 5 r) >>= fun d => (.ok []) >>= fun ds => .ok (d :: ds)) >>= enumS) r fun ds => forD (q_due_l2) ds r).seq fun r => (appG 3 (fun r => getS 4 r) r)))))
def e_q_due : Env → Oc := fun r => (lift ((.ok []) >>= lstD) r fun d => .nx (r.set 1 (.ow .flat d))).seq fun r => ((lift ((getS 0 r) >>= itemsD) r fun ds => forD (q_due_l1) ds r).seq fun r => ((lift ((.ok []) >>= lstD) r fun d => .nx (r.set 3 (.ow .flat d))).seq fun r => ((loopD q_due_w3c q_due_w3 r).seq fun r => (lift ((((getR 3 r) >>= revD) >>= fun d => (.ok []) >>= fun ds => .ok (d :: ds)) >>= one tupleD) r fun d => .rt d))))
def d_q_due : List D → Res D := runD 1 N_q_due.length e_q_due
def e_Rounds_is_even : Env → Oc := fun r => lift (.ok (.bl true)) r fun d => .rt d
def d_Rounds_is_even : List D → Res D := runD 1 N_Rounds_is_even.length e_Rounds_is_even
def mt_is_even (c : Nat) : Option (List D → Res D) := if c = 0 then some d_Rounds_is_even else none
def Rounds_members_c1 (r : Env) (ds : List D) : Res (List D) := lcD (nameG 5)
  (fun r => .ok true)
  (fun r => (getS 4 r) >>= fun x => (((getS 5 r) >>= fun d => (.ok []) >>= fun ds => .ok (d :: ds)) >>= tupD) >>= fun y => addD x y)
  (wipeR r [5]) ds
def Rounds_members_l2 : D → Env → Oc := fun d r => (into ((nameG 4) d r)).seq fun r => (extG 3 (fun r => (((getS 2 r) >>= fun d => (.ok []) >>= fun ds => .ok (d :: ds)) >>= rng1) >>= fun ds => Rounds_members_c1 r ds >>= lstD) r)
def Rounds_members_l3 : D → Env → Oc := fun d r => (into ((nameG 2) d r)).seq fun r => ((lift ((.ok []) >>= lstD) r fun d => .nx (r.set 3 (.ow .flat d))).seq fun r => ((lift ((getS 1 r) >>= itemsD) r fun ds => forD (Rounds_members_l2) ds r).seq fun r => (frzAt 3 (fun r => lift (getS 3 r) r fun d => .nx (r.set 1 (.sh d))) r)))
def e_Rounds_members : Env → Oc := fun r => (lift ((((.ok []) >>= tupD) >>= fun d => (.ok []) >>= fun ds => .ok (d :: ds)) >>= lstD) r fun d => .nx (r.set 1 (.sh d))).seq fun r => ((lift (((getS 0 r) >>= fldD (plOf [0] "rounds")) >>= itemsD) r fun ds => forD (Rounds_members_l3) ds r).seq fun r => (lift (getS 1 r) r fun d => .rt d))
def d_Rounds_members : List D → Res D := runD 1 N_Rounds_members.length e_Rounds_members
def mt_members (c : Nat) : Option (List D → Res D) := if c = 0 then some d_Rounds_members else none
def break_of_two_l1 : D → Env → Oc := fun d r => (into ((nameG 3) d r)).seq fun r => (lift (((.bad) >>= fun x => (.bad) >>= fun y => neD x y) >>= asB) r fun t => if t = true then (lift (((getS 2 r) >>= fun d => ((getS 3 r) >>= fun d => (.ok []) >>= fun ds => .ok (d :: ds)) >>= fun ds => .ok (d :: ds)) >>= tupD) r fun d => .rt d) else (.nx r))
def break_of_two_l2 : D → Env → Oc := fun d r => (into ((nameG 2) d r)).seq fun r => (lift ((getS 1 r) >>= itemsD) r fun ds => forD (break_of_two_l1) ds r)
def e_break_of_two : Env → Oc := fun r => (lift (((getS 0 r) >>= fldD (plOf [] "upper")) >>= fun d => mthD mt_members d >>= fun g => g []) r fun d => .nx (r.set 1 (.sh d))).seq fun r => ((lift ((getS 1 r) >>= itemsD) r fun ds => forD (break_of_two_l2) ds r).seq fun r => (lift (.ok .non) r fun d => .rt d))
def d_break_of_two : List D → Res D := runD 1 N_break_of_two.length e_break_of_two
def Rounds_nought_c1 (r : Env) (ds : List D) : Res (List D) := lcD (nameG 1)
  (fun r => .ok true)
  (fun r => .ok (.int 0))
  (wipeR r [1]) ds
def e_Rounds_nought : Env → Oc := fun r => lift ((((((getS 0 r) >>= fldD (plOf [0] "rounds")) >>= itemsD) >>= fun ds => Rounds_nought_c1 r ds >>= lstD) >>= fun d => (.ok []) >>= fun ds => .ok (d :: ds)) >>= one tupleD) r fun d => .rt d
def d_Rounds_nought : List D → Res D := runD 1 N_Rounds_nought.length e_Rounds_nought
def mt_nought (c : Nat) : Option (List D → Res D) := if c = 0 then some d_Rounds_nought else none
def Rounds_put_c1 (r : Env) (ds : List D) : Res (List D) := lcD (tupG 3 (consG (nameG 3) (consG (nameG 4) (consG (nameG 5) (nilG)))))
  (fun r => .ok true)
  (fun r => ((getS 3 r) >>= fun x => (getS 4 r) >>= fun y => addD x y) >>= fun x => (getS 5 r) >>= fun y => modD x y)
  (wipeR r [3, 4, 5]) ds
def e_Rounds_put : Env → Oc := fun r => lift ((((((getS 1 r) >>= fun d => ((getS 2 r) >>= fun d => (((getS 0 r) >>= fldD (plOf [0] "rounds")) >>= fun d => (.ok []) >>= fun ds => .ok (d :: ds)) >>= fun ds => .ok (d :: ds)) >>= fun ds => .ok (d :: ds)) >>= zip3D) >>= fun ds => Rounds_put_c1 r ds >>= lstD) >>= fun d => (.ok []) >>= fun ds => .ok (d :: ds)) >>= one tupleD) r fun d => .rt d
def d_Rounds_put : List D → Res D := runD 3 N_Rounds_put.length e_Rounds_put
def mt_put (c : Nat) : Option (List D → Res D) := if c = 0 then some d_Rounds_put else none
def times_of_w1c : Env → Res Bool := fun r => (((getR 2 r) >>= fun x => ((.ok (.int 1)) >>= negD) >>= fun y => ixD x y) >>= fun x => ((getS 0 r) >>= fun d => mthD mt_nought d >>= fun g => g []) >>= fun y => neD x y) >>= asB
def times_of_w1 : Env → Oc := fun r => (appG 2 (fun r => (getS 0 r) >>= fun d => mthD mt_put d >>= fun g => (((getR 2 r) >>= fun x => ((.ok (.int 1)) >>= negD) >>= fun y => ixD x y) >>= fun d => ((getS 1 r) >>= fun d => (.ok []) >>= fun ds => .ok (d :: ds)) >>= fun ds => .ok (d :: ds)) >>= g) r)
def e_times_of : Env → Oc := fun r => (lift (((getS 1 r) >>= fun d => (.ok []) >>= fun ds => .ok (d :: ds)) >>= lstD) r fun d => .nx (r.set 2 (.ow .flat d))).seq fun r => ((loopD times_of_w1c times_of_w1 r).seq fun r => (frzAt 2 (fun r => lift (getS 2 r) r fun d => .rt d) r))
def d_times_of : List D → Res D := runD 2 N_times_of.length e_times_of
def widened_l1 : D → Env → Oc := fun d r => (into ((nameG 5) d r)).seq fun r => (setG 3 (fun r => .ok (.bl true)) (fun r => (getS 0 r) >>= fun d => mthD mt_put d >>= fun g => ((getS 4 r) >>= fun d => ((getS 5 r) >>= fun d => (.ok []) >>= fun ds => .ok (d :: ds)) >>= fun ds => .ok (d :: ds)) >>= g) r)
def widened_l2 : D → Env → Oc := fun d r => (into ((nameG 4) d r)).seq fun r => (lift ((getS 2 r) >>= itemsD) r fun ds => forD (widened_l1) ds r)
def e_widened : Env → Oc := fun r => (lift (.ok (.dic [] [])) r fun d => .nx (r.set 3 (.ow .flat d))).seq fun r => ((lift ((getS 1 r) >>= itemsD) r fun ds => forD (widened_l2) ds r).seq fun r => (frzAt 3 (fun r => lift (getS 3 r) r fun d => .rt d) r))
def d_widened : List D → Res D := runD 3 N_widened.length e_widened
def parts_of_c1 (r : Env) (ds : List D) : Res (List D) := lcD (nameG 7)
  (fun r => .ok true)
  (fun r => ((getS 0 r) >>= fun d => ((getS 7 r) >>= fun d => (.ok []) >>= fun ds => .ok (d :: ds)) >>= fun ds => .ok (d :: ds)) >>= d_times_of)
  (wipeR r [7]) ds
def parts_of_c2 (r : Env) (ds : List D) : Res (List D) := lcD (nameG 7)
  (fun r => .ok true)
  (fun r => (getS 7 r) >>= fun x => (getS 2 r) >>= fun y => inD x y)
  (wipeR r [7]) ds
def parts_of_l3 : D → Env → Oc := fun d r => (into ((nameG 6) d r)).seq fun r => (lift ((((((getS 6 r) >>= fun d => (.ok []) >>= fun ds => .ok (d :: ds)) >>= one lenD) >>= fun x => (((getS 5 r) >>= fun d => (.ok []) >>= fun ds => .ok (d :: ds)) >>= one lenD) >>= fun y => gtD x y) >>= asB) >>= fun t => if t = true then ((((((((getS 6 r) >>= fun d => (.ok none) >>= fun lo => (((.ok (.int 1)) >>= negD) >>= fun d => asI d >>= fun i => .ok (some i)) >>= fun hi => sliceD d lo hi) >>= itemsD) >>= fun ds => parts_of_c2 r ds >>= lstD) >>= fun d => (.ok []) >>= fun ds => .ok (d :: ds)) >>= one anyT) >>= asB) >>= fun t => .ok (!t)) else .ok false) r fun t => if t = true then (lift (getS 6 r) r fun d => .nx (r.set 5 (.sh d))) else (.nx r))
def parts_of_w4c : Env → Res Bool := fun r => ((((getS 2 r) >>= fun d => (.ok []) >>= fun ds => .ok (d :: ds)) >>= one lenD) >>= fun x => (((getS 3 r) >>= fun d => (.ok []) >>= fun ds => .ok (d :: ds)) >>= one lenD) >>= fun y => ltD x y) >>= asB
def parts_of_w4 : Env → Oc := fun r => ((lift (((getS 1 r) >>= fun d => (.ok []) >>= fun ds => .ok (d :: ds)) >>= lstD) r fun d => .nx (r.set 5 (.sh d))).seq fun r => ((lift ((getS 3 r) >>= itemsD) r fun ds => forD (parts_of_l3) ds r).seq fun r => ((appG 4 (fun r => getS 5 r) r).seq fun r => (lift (((getS 0 r) >>= fun d => ((getS 2 r) >>= fun d => ((getS 5 r) >>= fun d => (.ok []) >>= fun ds => .ok (d :: ds)) >>= fun ds => .ok (d :: ds)) >>= fun ds => .ok (d :: ds)) >>= d_widened) r fun d => .nx (r.set 2 (.sh d))))))
def e_parts_of : Env → Oc := fun r => (lift ((getS 0 r) >>= fun d => mthD mt_nought d >>= fun g => g []) r fun d => .nx (r.set 1 (.sh d))).seq fun r => ((lift ((getS 1 r) >>= fun kd => (.ok (.bl true)) >>= fun vd => dic1 kd vd) r fun d => .nx (r.set 2 (.sh d))).seq fun r => ((shareAt 3 (lift ((((getS 0 r) >>= fun d => mthD mt_members d >>= fun g => g []) >>= itemsD) >>= fun ds => parts_of_c1 r ds >>= lstD) r fun d => .nx (r.set 3 (.ow .flat d)))).seq fun r => ((lift ((.ok []) >>= lstD) r fun d => .nx (r.set 4 (.ow .flat d))).seq fun r => ((loopD parts_of_w4c parts_of_w4 r).seq fun r => (giveG 4 r)))))
def d_parts_of : List D → Res D := runO 1 N_parts_of.length e_parts_of
def e_is_whole : Env → Oc := fun r => lift (((((getS 0 r) >>= fun d => ((.ok (.ty "int")) >>= fun d => (.ok []) >>= fun ds => .ok (d :: ds)) >>= fun ds => .ok (d :: ds)) >>= two (isD isC isU)) >>= asB) >>= fun t => if t = true then (((((getS 0 r) >>= fun d => ((.ok (.ty "bool")) >>= fun d => (.ok []) >>= fun ds => .ok (d :: ds)) >>= fun ds => .ok (d :: ds)) >>= two (isD isC isU)) >>= asB) >>= fun t => .ok (.bl (!t))) else .ok (.bl false)) r fun d => .rt d
def d_is_whole : List D → Res D := runD 1 N_is_whole.length e_is_whole
def are_rounds_l1 : D → Env → Oc := fun d r => (into ((nameG 2) d r)).seq fun r => ((lift ((((((getS 2 r) >>= fun d => (.ok []) >>= fun ds => .ok (d :: ds)) >>= d_is_whole) >>= asB) >>= fun t => .ok (!t)) >>= fun t => if t = true then .ok true else ((((getS 2 r) >>= fun x => (.ok (.int 2)) >>= fun y => ltD x y) >>= asB) >>= fun t => if t = true then .ok true else (((getS 2 r) >>= fun x => (.ok (.int 144)) >>= fun y => gtD x y) >>= asB))) r fun t => if t = true then (lift (.ok (.bl false)) r fun d => .rt d) else (.nx r)).seq fun r => (lift ((getS 1 r) >>= fun x => (getS 2 r) >>= fun y => mulD x y) r fun d => .nx (r.set 1 (.sh d))))
def e_are_rounds : Env → Oc := fun r => (lift ((((((getS 0 r) >>= fun d => ((((.ok (.ty "list")) >>= fun d => ((.ok (.ty "tuple")) >>= fun d => (.ok []) >>= fun ds => .ok (d :: ds)) >>= fun ds => .ok (d :: ds)) >>= tupD) >>= fun d => (.ok []) >>= fun ds => .ok (d :: ds)) >>= fun ds => .ok (d :: ds)) >>= two (isD isC isU)) >>= asB) >>= fun t => .ok (!t)) >>= fun t => if t = true then .ok true else (((((getS 0 r) >>= fun d => (.ok []) >>= fun ds => .ok (d :: ds)) >>= one lenD) >>= fun x => (.ok (.int 7)) >>= fun y => gtD x y) >>= asB)) r fun t => if t = true then (lift (.ok (.bl false)) r fun d => .rt d) else (.nx r)).seq fun r => ((lift (.ok (.int 1)) r fun d => .nx (r.set 1 (.sh d))).seq fun r => ((lift ((getS 0 r) >>= itemsD) r fun ds => forD (are_rounds_l1) ds r).seq fun r => (lift ((getS 1 r) >>= fun x => (.ok (.int 144)) >>= fun y => leD x y) r fun d => .rt d)))
def d_are_rounds : List D → Res D := runD 1 N_are_rounds.length e_are_rounds
def e_Rounds_init : Env → Oc := fun r => (lift (((((getS 1 r) >>= fun d => (.ok []) >>= fun ds => .ok (d :: ds)) >>= d_are_rounds) >>= asB) >>= fun t => .ok (!t)) r fun t => if t = true then (.er (.exc 11 []) r) else (.nx r)).seq fun r => (lift (((getS 1 r) >>= fun d => (.ok []) >>= fun ds => .ok (d :: ds)) >>= one tupleD) r fun d => setF 0 0 "rounds" .sh d r)
def d_Rounds_init : List D → Res D := runI 1 N_Rounds_init.length 0 e_Rounds_init
def plainest_c1 (r : Env) (ds : List D) : Res (List D) := lcD (nameG 8)
  (fun r => .ok true)
  (fun r => ((getS 8 r) >>= fun d => (.ok []) >>= fun ds => .ok (d :: ds)) >>= one lenD)
  (wipeR r [8]) ds
def plainest_l2 : D → Env → Oc := fun d r => (into ((tupG 2 (consG (nameG 7) (consG (nameG 8) (nilG)))) d r)).seq fun r => (lift ((getS 0 r) >>= fun d => mthD mt_put d >>= fun g => ((getS 6 r) >>= fun d => (((getS 8 r) >>= fun x => ((getS 7 r) >>= fun x => (.ok (.int 1)) >>= fun y => subD x y) >>= fun y => ixD x y) >>= fun d => (.ok []) >>= fun ds => .ok (d :: ds)) >>= fun ds => .ok (d :: ds)) >>= g) r fun d => .nx (r.set 6 (.sh d)))
def plainest_l3 : D → Env → Oc := fun d r => (into ((nameG 5) d r)).seq fun r => ((lift ((getS 0 r) >>= fun d => mthD mt_nought d >>= fun g => g []) r fun d => .nx (r.set 6 (.sh d))).seq fun r => ((frzAt 1 (fun r => lift (((getS 5 r) >>= fun d => ((getS 1 r) >>= fun d => (.ok []) >>= fun ds => .ok (d :: ds)) >>= fun ds => .ok (d :: ds)) >>= zip2D) r fun ds => forD (plainest_l2) ds r) r).seq fun r => ((setG 3 (fun r => getS 5 r) (fun r => getS 6 r) r).seq fun r => (setG 4 (fun r => getS 6 r) (fun r => getS 5 r) r))))
def e_plainest : Env → Oc := fun r => (lift ((((getS 0 r) >>= fun d => mthD mt_is_even d >>= fun g => g []) >>= asB) >>= fun t => .ok (!t)) r fun t => if t = true then (lift (((((getS 0 r) >>= fldD (plOf [] "table")) >>= fun d => (.ok []) >>= fun ds => .ok (d :: ds)) >>= d_break_of_two) >>= fun d => (.ok []) >>= fun ds => .ok (d :: ds)) r fun ds => raiseD 25 ds r) else (.nx r)).seq fun r => ((lift (((getS 0 r) >>= fun d => (.ok []) >>= fun ds => .ok (d :: ds)) >>= d_parts_of) r fun d => .nx (r.set 1 (.ow .flat d))).seq fun r => ((revG 1 r).seq fun r => ((lift (((((getR 1 r) >>= itemsD) >>= fun ds => plainest_c1 r ds >>= lstD) >>= fun d => (.ok []) >>= fun ds => .ok (d :: ds)) >>= one tupleD) r fun d => .nx (r.set 2 (.sh d))).seq fun r => ((lift (.ok (.dic [] [])) r fun d => .nx (r.set 3 (.ow .flat d))).seq fun r => ((lift (.ok (.dic [] [])) r fun d => .nx (r.set 4 (.ow .flat d))).seq fun r => ((lift (((((getS 2 r) >>= fun d => (.ok []) >>= fun ds => .ok (d :: ds)) >>= d_Rounds_init) >>= fun d => mthD mt_members d >>= fun g => g []) >>= itemsD) r fun ds => forD (plainest_l3) ds r).seq fun r => (lift (getS 2 r) r fun d0 => giveT2 3 4 d0 r)))))))
def d_plainest : List D → Res D := runO 1 N_plainest.length e_plainest
def e_q_whole : Env → Oc := fun r => lift (((((getS 0 r) >>= fun d => ((.ok (.ty "int")) >>= fun d => (.ok []) >>= fun ds => .ok (d :: ds)) >>= fun ds => .ok (d :: ds)) >>= two (isD isC isU)) >>= asB) >>= fun t => if t = true then (((((getS 0 r) >>= fun d => ((.ok (.ty "bool")) >>= fun d => (.ok []) >>= fun ds => .ok (d :: ds)) >>= fun ds => .ok (d :: ds)) >>= two (isD isC isU)) >>= asB) >>= fun t => .ok (.bl (!t))) else .ok (.bl false)) r fun d => .rt d
def d_q_whole : List D → Res D := runD 1 N_q_whole.length e_q_whole
def q_elements_c1 (r : Env) (ds : List D) : Res (List D) := lcD (nameG 5)
  (fun r => .ok true)
  (fun r => (getS 4 r) >>= fun x => (((getS 5 r) >>= fun d => (.ok []) >>= fun ds => .ok (d :: ds)) >>= tupD) >>= fun y => addD x y)
  (wipeR r [5]) ds
def q_elements_l2 : D → Env → Oc := fun d r => (into ((nameG 4) d r)).seq fun r => (extG 3 (fun r => (((getS 2 r) >>= fun d => (.ok []) >>= fun ds => .ok (d :: ds)) >>= rng1) >>= fun ds => q_elements_c1 r ds >>= lstD) r)
def q_elements_l3 : D → Env → Oc := fun d r => (into ((nameG 2) d r)).seq fun r => ((lift ((.ok []) >>= lstD) r fun d => .nx (r.set 3 (.ow .flat d))).seq fun r => ((lift ((getS 1 r) >>= itemsD) r fun ds => forD (q_elements_l2) ds r).seq fun r => (frzAt 3 (fun r => lift (getS 3 r) r fun d => .nx (r.set 1 (.sh d))) r)))
def e_q_elements : Env → Oc := fun r => (lift ((((.ok []) >>= tupD) >>= fun d => (.ok []) >>= fun ds => .ok (d :: ds)) >>= lstD) r fun d => .nx (r.set 1 (.sh d))).seq fun r => ((lift ((getS 0 r) >>= itemsD) r fun ds => forD (q_elements_l3) ds r).seq fun r => (lift (getS 1 r) r fun d => .rt d))
def d_q_elements : List D → Res D := runD 1 N_q_elements.length e_q_elements
def q_plus_c1 (r : Env) (ds : List D) : Res (List D) := lcD (tupG 3 (consG (nameG 3) (consG (nameG 4) (consG (nameG 5) (nilG)))))
  (fun r => .ok true)
  (fun r => ((getS 3 r) >>= fun x => (getS 4 r) >>= fun y => addD x y) >>= fun x => (getS 5 r) >>= fun y => modD x y)
  (wipeR r [3, 4, 5]) ds
def e_q_plus : Env → Oc := fun r => lift ((((((getS 1 r) >>= fun d => ((getS 2 r) >>= fun d => ((getS 0 r) >>= fun d => (.ok []) >>= fun ds => .ok (d :: ds)) >>= fun ds => .ok (d :: ds)) >>= fun ds => .ok (d :: ds)) >>= zip3D) >>= fun ds => q_plus_c1 r ds >>= lstD) >>= fun d => (.ok []) >>= fun ds => .ok (d :: ds)) >>= one tupleD) r fun d => .rt d
def d_q_plus : List D → Res D := runD 3 N_q_plus.length e_q_plus
def q_leads_c1 (r : Env) (ds : List D) : Res (List D) := lcD (nameG 9)
  (fun r => .ok true)
  (fun r => ((getS 5 r) >>= fun x => ((getS 4 r) >>= fun x => (getS 9 r) >>= fun y => ixD x y) >>= fun y => ixD x y) >>= fun x => (getS 9 r) >>= fun y => neD x y)
  (wipeR r [9]) ds
def q_leads_c2 (r : Env) (ds : List D) : Res (List D) := lcD (nameG 10)
  (fun r => .ok true)
  (fun r => (((getS 10 r) >>= fun x => (getS 12 r) >>= fun y => eqD x y) >>= fun d => (.ok []) >>= fun ds => .ok (d :: ds)) >>= one intD)
  (wipeR r [10]) ds
def q_leads_c3 (r : Env) (ds : List D) : Res (List D) := lcD (nameG 12)
  (fun r => .ok true)
  (fun r => (((((((getS 0 r) >>= fun d => (.ok []) >>= fun ds => .ok (d :: ds)) >>= one lenD) >>= fun d => (.ok []) >>= fun ds => .ok (d :: ds)) >>= rng1) >>= fun ds => q_leads_c2 r ds >>= lstD) >>= fun d => (.ok []) >>= fun ds => .ok (d :: ds)) >>= one tupleD)
  (wipeR r [12]) ds
def q_leads_c4 (r : Env) (ds : List D) : Res (List D) := lcD (nameG 13)
  (fun r => .ok true)
  (fun r => ((getS 9 r) >>= fun d => ((getS 13 r) >>= fun d => (.ok []) >>= fun ds => .ok (d :: ds)) >>= fun ds => .ok (d :: ds)) >>= tupD)
  (wipeR r [13]) ds
def q_leads_l5 : D → Env → Oc := fun d r => (into ((nameG 9) d r)).seq fun r => (extG 8 (fun r => ((getS 6 r) >>= itemsD) >>= fun ds => q_leads_c4 r ds >>= lstD) r)
def q_leads_l6 : D → Env → Oc := fun d r => (into ((nameG 10) d r)).seq fun r => ((lift ((getS 6 r) >>= fun x => ((((getS 2 r) >>= fun d => (((.ok (.int 30)) >>= fun x => ((.ok (.int 2)) >>= fun x => (getS 10 r) >>= fun y => mulD x y) >>= fun y => addD x y) >>= fun d => (.ok []) >>= fun ds => .ok (d :: ds)) >>= fun ds => .ok (d :: ds)) >>= d_q_cell) >>= fun x => (((getS 6 r) >>= fun d => (.ok []) >>= fun ds => .ok (d :: ds)) >>= one lenD) >>= fun y => modD x y) >>= fun y => ixD x y) r fun d => .nx (r.set 11 (.sh d))).seq fun r => (appG 8 (fun r => ((getS 11 r) >>= fun d => (((getS 6 r) >>= fun x => ((((getS 2 r) >>= fun d => (((.ok (.int 31)) >>= fun x => ((.ok (.int 2)) >>= fun x => (getS 10 r) >>= fun y => mulD x y) >>= fun y => addD x y) >>= fun d => (.ok []) >>= fun ds => .ok (d :: ds)) >>= fun ds => .ok (d :: ds)) >>= d_q_cell) >>= fun x => (((getS 6 r) >>= fun d => (.ok []) >>= fun ds => .ok (d :: ds)) >>= one lenD) >>= fun y => modD x y) >>= fun y => ixD x y) >>= fun d => (.ok []) >>= fun ds => .ok (d :: ds)) >>= fun ds => .ok (d :: ds)) >>= tupD) r))
def q_leads_c7 (r : Env) (ds : List D) : Res (List D) := lcD (tupG 2 (consG (nameG 9) (consG (nameG 13) (nilG))))
  (fun r => .ok true)
  (fun r => ((getS 4 r) >>= fun x => (((getS 0 r) >>= fun d => ((getS 9 r) >>= fun d => ((getS 13 r) >>= fun d => (.ok []) >>= fun ds => .ok (d :: ds)) >>= fun ds => .ok (d :: ds)) >>= fun ds => .ok (d :: ds)) >>= d_q_plus) >>= fun y => ixD x y) >>= fun x => (((getS 3 r) >>= fun d => (((getS 4 r) >>= fun x => (getS 9 r) >>= fun y => ixD x y) >>= fun d => (((getS 4 r) >>= fun x => (getS 13 r) >>= fun y => ixD x y) >>= fun d => (.ok []) >>= fun ds => .ok (d :: ds)) >>= fun ds => .ok (d :: ds)) >>= fun ds => .ok (d :: ds)) >>= d_q_plus) >>= fun y => eqD x y)
  (wipeR r [9, 13]) ds
def e_q_leads : Env → Oc := fun r => (lift (getS 1 r) r fun d => into ((tupG 3 (consG (nameG 3) (consG (nameG 4) (consG (nameG 5) (nilG))))) d r)).seq fun r => ((lift (((getS 0 r) >>= fun d => (.ok []) >>= fun ds => .ok (d :: ds)) >>= d_q_elements) r fun d => .nx (r.set 6 (.sh d))).seq fun r => ((lift ((((((getS 4 r) >>= fun d => ((.ok (.ty "dict")) >>= fun d => (.ok []) >>= fun ds => .ok (d :: ds)) >>= fun ds => .ok (d :: ds)) >>= two (isD isC isU)) >>= asB) >>= fun t => .ok (!t)) >>= fun t => if t = true then .ok true else ((((((getS 5 r) >>= fun d => ((.ok (.ty "dict")) >>= fun d => (.ok []) >>= fun ds => .ok (d :: ds)) >>= fun ds => .ok (d :: ds)) >>= two (isD isC isU)) >>= asB) >>= fun t => .ok (!t)) >>= fun t => if t = true then .ok true else (((((getS 4 r) >>= fun d => (.ok []) >>= fun ds => .ok (d :: ds)) >>= one sortedD) >>= fun x => (getS 6 r) >>= fun y => neD x y) >>= asB))) r fun t => if t = true then (lift (.ok (.bl false)) r fun d => .rt d) else (.nx r)).seq fun r => ((lift ((((((getS 5 r) >>= fun d => (.ok []) >>= fun ds => .ok (d :: ds)) >>= one sortedD) >>= fun x => (((getS 3 r) >>= fun d => (.ok []) >>= fun ds => .ok (d :: ds)) >>= d_q_elements) >>= fun y => neD x y) >>= asB) >>= fun t => if t = true then .ok true else ((((getS 4 r) >>= sortedVS) >>= fun x => (((getS 5 r) >>= fun d => (.ok []) >>= fun ds => .ok (d :: ds)) >>= one sortedD) >>= fun y => neD x y) >>= asB)) r fun t => if t = true then (lift (.ok (.bl false)) r fun d => .rt d) else (.nx r)).seq fun r => ((lift ((((((getS 6 r) >>= itemsD) >>= fun ds => q_leads_c1 r ds >>= lstD) >>= fun d => (.ok []) >>= fun ds => .ok (d :: ds)) >>= one anyT) >>= asB) r fun t => if t = true then (lift (.ok (.bl false)) r fun d => .rt d) else (.nx r)).seq fun r => ((shareAt 7 (lift ((((((getS 0 r) >>= fun d => (.ok []) >>= fun ds => .ok (d :: ds)) >>= one lenD) >>= fun d => (.ok []) >>= fun ds => .ok (d :: ds)) >>= rng1) >>= fun ds => q_leads_c3 r ds >>= lstD) r fun d => .nx (r.set 7 (.ow .flat d)))).seq fun r => ((lift ((.ok []) >>= lstD) r fun d => .nx (r.set 8 (.ow .flat d))).seq fun r => ((lift ((getS 7 r) >>= itemsD) r fun ds => forD (q_leads_l5) ds r).seq fun r => ((lift (((.ok (.int 20)) >>= fun d => (.ok []) >>= fun ds => .ok (d :: ds)) >>= rng1) r fun ds => forD (q_leads_l6) ds r).seq fun r => (lift (((((getR 8 r) >>= itemsD) >>= fun ds => q_leads_c7 r ds >>= lstD) >>= fun d => (.ok []) >>= fun ds => .ok (d :: ds)) >>= one allT) r fun d => .rt d)))))))))
def d_q_leads : List D → Res D := runD 3 N_q_leads.length e_q_leads
def law_s1 : Env → Oc := fun r => lift (((getS 0 r) >>= fun d => (.ok []) >>= fun ds => .ok (d :: ds)) >>= d_q_rounds) r fun d => .nx (r.set 1 (.sh d))
def law_s2 : Env → Oc := fun r => lift (((getS 1 r) >>= fun d => (.ok []) >>= fun ds => .ok (d :: ds)) >>= d_q_due) r fun d => .nx (r.set 2 (.sh d))
def law_s3_1 : Env → Oc := fun r => lift (((((getS 1 r) >>= fun d => (.ok []) >>= fun ds => .ok (d :: ds)) >>= d_Rounds_init) >>= fun d => (.ok []) >>= fun ds => .ok (d :: ds)) >>= d_plainest) r fun d => .nx (r.set 4 (.ow (.parts [.sh, .flat, .flat]) d))
def law_s3_2 : Env → Oc := fun r => lift (lendP 4 (fun r => (((((getS 4 r) >>= fun d => ((.ok (.ty "tuple")) >>= fun d => (.ok []) >>= fun ds => .ok (d :: ds)) >>= fun ds => .ok (d :: ds)) >>= two (isD isC isU)) >>= asB) >>= fun t => .ok (!t)) >>= fun t => if t = true then .ok true else ((((((getS 4 r) >>= fun d => (.ok []) >>= fun ds => .ok (d :: ds)) >>= one lenD) >>= fun x => (.ok (.int 3)) >>= fun y => neD x y) >>= asB) >>= fun t => if t = true then .ok true else ((((((partG 4 0 r) >>= fun d => ((.ok (.ty "tuple")) >>= fun d => (.ok []) >>= fun ds => .ok (d :: ds)) >>= fun ds => .ok (d :: ds)) >>= two (isD isC isU)) >>= asB) >>= fun t => .ok (!t)) >>= fun t => if t = true then .ok true else (((partG 4 0 r) >>= fun x => (getS 2 r) >>= fun y => neD x y) >>= asB)))) r) r fun t => if t = true then (lift (.ok (.bl false)) r fun d => .rt d) else (.nx r)
def law_c1 (r : Env) (ds : List D) : Res (List D) := lcD (nameG 5)
  (fun r => .ok true)
  (fun r => ((getS 5 r) >>= fun d => (.ok []) >>= fun ds => .ok (d :: ds)) >>= d_q_whole)
  (wipeR r [5]) ds
def law_s3_3 : Env → Oc := fun r => lift (lendP 4 (fun r => ((((((((getS 4 r) >>= fun x => (.ok (.int 0)) >>= fun y => ixD x y) >>= itemsD) >>= fun ds => law_c1 r ds >>= lstD) >>= fun d => (.ok []) >>= fun ds => .ok (d :: ds)) >>= one allT) >>= asB) >>= fun t => .ok (!t)) >>= fun t => if t = true then .ok true else (((((getS 1 r) >>= fun d => ((getS 4 r) >>= fun d => ((getS 0 r) >>= fun d => (.ok []) >>= fun ds => .ok (d :: ds)) >>= fun ds => .ok (d :: ds)) >>= fun ds => .ok (d :: ds)) >>= d_q_leads) >>= asB) >>= fun t => .ok (!t))) r) r fun t => if t = true then (lift (.ok (.bl false)) r fun d => .rt d) else (.nx r)
def law_s3_4 : Env → Oc := fun r => clrTI 4 1 r
def law_s3_5 : Env → Oc := fun r => clrTI 4 2 r
def law_l2 : D → Env → Oc := fun d r => (into ((nameG 3) d r)).seq fun r => ((law_s3_1 r).seq fun r => ((law_s3_2 r).seq fun r => ((law_s3_3 r).seq fun r => ((law_s3_4 r).seq fun r => (law_s3_5 r)))))
def law_s3 : Env → Oc := fun r => lift (((.ok (.int 2)) >>= fun d => (.ok []) >>= fun ds => .ok (d :: ds)) >>= rng1) r fun ds => forD (law_l2) ds r
def law_s4 : Env → Oc := fun r => lift (.ok (.bl true)) r fun d => .rt d
def e_law : Env → Oc := fun r => (law_s1 r).seq fun r => ((law_s2 r).seq fun r => ((law_s3 r).seq fun r => (law_s4 r)))
def d_law : List D → Res D := runD 1 N_law.length e_law
structure Txt (P : Program) (w : World) (K : PySem.W.Frag) (mg : Str → Option Value) (base : Heap) : Prop where
  zz : True
  n_len : mg "len" = none
  n_range : mg "range" = none
  n_tuple : mg "tuple" = none
  n_sorted : mg "sorted" = none
  n_enumerate : mg "enumerate" = none
  c_Uneven : mg (cname 25) = some (.ref ((⟨P, w, K, mg⟩ : GC).ca 25))
  e_Uneven : ExMA P w K mg base ((⟨P, w, K, mg⟩ : GC).ca 25) 25
  f_rounds : FldM K (⟨P, w, K, mg⟩ : GC).ca "rounds" (plOf [0] "rounds")
  f_upper : FldM K (⟨P, w, K, mg⟩ : GC).ca "upper" (plOf [] "upper")
  f_table : FldM K (⟨P, w, K, mg⟩ : GC).ca "table" (plOf [] "table")
  n_zip : mg "zip" = none
  n_any : mg "any" = none
  c_Rounds : mg (cname 0) = some (.ref ((⟨P, w, K, mg⟩ : GC).ca 0))
  n_isinstance : mg "isinstance" = none
  n_list : mg "list" = none
  g_MOST_ROUNDS : ∃ t, mg "MOST_ROUNDS" = some (.int 7 t)
  n_int : mg "int" = none
  n_bool : mg "bool" = none
  g_MOST_ELEMENTS : ∃ t, mg "MOST_ELEMENTS" = some (.int 144 t)
  c_NoRounds : mg (cname 11) = some (.ref ((⟨P, w, K, mg⟩ : GC).ca 11))
  e_NoRounds : ExM0 K mg ((⟨P, w, K, mg⟩ : GC).ca 11) 11
  cl_Rounds_rounds : ClM K (⟨P, w, K, mg⟩ : GC).ca "rounds" 0
  n_all : mg "all" = none
  n_dict : mg "dict" = none
  isM : IsM K (⟨P, w, K, mg⟩ : GC).ca isC isU
section
variable {P : Program} {w : World} {K : PySem.W.Frag} {mg : Str → Option Value} {base : Heap}
theorem b_q_cell (T : Txt P w K mg base) {f : Addr} (cdv : Value) (A : Around) (outer : List PySem.Env) (s : Shared) (H : Hp) (E : XK) (hr : Room 0 (A.deeper (envOfC "_law_cell" (defScope s_q_cell) s.heap.objs.size f cdv))) :
    RSs (cxOf (L2.CX P w) P w K mg base N_q_cell "_law_cell" (defScope s_q_cell) f cdv A outer s H E) (WD E) .S (defBody s_q_cell) e_q_cell :=
  rss_cons (rs_set 2 sc_q_cell.nd (re_sub (re_rd (re_blt (b_len T.n_len) (rar_cons (re_rd (re_var 0)) (rar_nil)))) (re_rd (re_int))))
    (rss_cons (rs_if (rt_pw (rw_and (rt_cp (c_gt) (re_rd (re_var 2)) (re_rd (re_int))) (rw_and1 (rt_cp (c_eq hr) (re_rd (re_mod (re_rd (re_ix hr (re_rd (re_var 0)) (re_rd (re_int)))) (re_rd (re_int)))) (re_rd (re_int))))))
    (rss_one (rs_ret (re_mod (re_rd (re_shr (re_rd (re_ix hr (re_rd (re_var 0)) (re_rd (re_add (re_rd (re_int)) (re_rd (re_mod (re_rd (re_var 1)) (re_rd (re_var 2)))))))) (re_rd (re_mul (re_rd (re_int)) (re_rd (re_div (re_rd (re_var 1)) (re_rd (re_var 2)))))))) (re_rd (re_int)))))
    (rss_nil))
    (rss_cons (rs_set 3 sc_q_cell.nd (re_int))
    (rss_cons (rs_if (rt_cp (c_gt) (re_rd (re_blt (b_len T.n_len) (rar_cons (re_rd (re_var 0)) (rar_nil)))) (re_rd (re_int)))
    (rss_one (rs_set 3 sc_q_cell.nd (re_mod (re_rd (re_ix hr (re_rd (re_var 0)) (re_rd (re_mod (re_rd (re_var 1)) (re_rd (re_blt (b_len T.n_len) (rar_cons (re_rd (re_var 0)) (rar_nil)))))))) (re_rd (re_pow (re_rd (re_int)) (re_rd (re_int)))))))
    (rss_nil))
    (rss_one (rs_ret (re_mod (re_rd (re_mul (re_rd (re_mod (re_rd (re_add (re_rd (re_mul (re_rd (re_var 3)) (re_rd (re_int)))) (re_rd (re_mul (re_rd (re_int)) (re_rd (re_var 1)))))) (re_rd (re_int)))) (re_rd (re_int)))) (re_rd (re_int))))))))
theorem b_q_rounds (T : Txt P w K mg base) (M_q_cell : FnM P w K mg base 1 "_law_cell" .S d_q_cell) {f : Addr} (cdv : Value) (A : Around) (outer : List PySem.Env) (s : Shared) (H : Hp) (E : XK) (hr : Room 1 (A.deeper (envOfC "_law_rounds" (defScope s_q_rounds) s.heap.objs.size f cdv))) :
    RSs (cxOf (L2.CX P w) P w K mg base N_q_rounds "_law_rounds" (defScope s_q_rounds) f cdv A outer s H E) (WD E) .S (defBody s_q_rounds) e_q_rounds :=
  rss_cons (rs_if (rt_cp (c_eq hr) (re_rd (re_mod (re_rd (re_call M_q_cell (hr.mono (by decide)) (takes_of rfl rfl rfl rfl) (ra_cons (re_var 0) (ra_cons (re_int) (ra_nil))))) (re_rd (re_int)))) (re_rd (re_int)))
    (rss_cons (rs_set 1 sc_q_rounds.nd (re_share (re_lst (ra_cons (re_mul (re_rd (re_tup (ra_cons (re_int) (ra_nil)))) (re_rd (re_int))) (ra_cons (re_tup (ra_cons (re_int) (ra_cons (re_int) (ra_cons (re_int) (ra_cons (re_int) (ra_cons (re_int) (ra_nil))))))) (ra_cons (re_tup (ra_cons (re_int) (ra_cons (re_int) (ra_cons (re_int) (ra_cons (re_int) (ra_cons (re_int) (ra_nil))))))) (ra_cons (re_tup (ra_cons (re_int) (ra_cons (re_int) (ra_nil)))) (ra_cons (re_tup (ra_cons (re_int) (ra_cons (re_int) (ra_cons (re_int) (ra_cons (re_int) (ra_nil)))))) (ra_cons (re_tup (ra_cons (re_int) (ra_cons (re_int) (ra_cons (re_int) (ra_nil))))) (ra_cons (re_mul (re_rd (re_tup (ra_cons (re_int) (ra_nil)))) (re_rd (re_int))) (ra_cons (re_tup (ra_cons (re_int) (ra_cons (re_int) (ra_nil)))) (ra_nil))))))))))))
    (rss_one (rs_ret (re_ix hr (re_rd (re_var 1)) (re_rd (re_mod (re_rd (re_div (re_rd (re_call M_q_cell (hr.mono (by decide)) (takes_of rfl rfl rfl rfl) (ra_cons (re_var 0) (ra_cons (re_int) (ra_nil))))) (re_rd (re_int)))) (re_rd (re_int))))))))
    (rss_nil))
    (rss_cons (rs_setO 2 sc_q_rounds.nd (re_lst (ra_nil)))
    (rss_cons (rs_for (passes_of rfl) rfl (by exact (ri_range1 (b := true) T.n_range (rar_cons (re_rd (re_mod (re_rd (re_call M_q_cell (hr.mono (by decide)) (takes_of rfl rfl rfl rfl) (ra_cons (re_var 0) (ra_cons (re_int) (ra_nil))))) (re_rd (re_int)))) (rar_nil)))) (by exact (gN 3 sc_q_rounds.nd))
    (by exact (rss_cons (rs_set 4 sc_q_rounds.nd (re_add (re_rd (re_int)) (re_rd (re_mod (re_rd (re_call M_q_cell (hr.mono (by decide)) (takes_of rfl rfl rfl rfl) (ra_cons (re_var 0) (ra_cons (re_add (re_rd (re_int)) (re_rd (re_var 3))) (ra_nil))))) (re_rd (re_ix hr (re_rd (re_lst (ra_cons (re_int) (ra_cons (re_int) (ra_cons (re_int) (ra_cons (re_int) (ra_nil))))))) (re_rd (re_var 3))))))))
    (rss_cons (rs_set 5 sc_q_rounds.nd (re_var 4))
    (rss_cons (rs_forH 2 (fun _ => trivial) (passes_of rfl) rfl (by exact (re_iterR (re_varR 2))) (fun v => by exact (gN 6 sc_q_rounds.nd))
    (fun v => by exact (rss_one (rs_set 5 sc_q_rounds.nd (re_mul (re_rd (re_var 5)) (re_rd (re_var 6)))))))
    (rss_one (rs_if (rt_cp (c_le) (re_rd (re_var 5)) (re_rd (re_int)))
    (rss_one (rs_append 2 (re_var 4)))
    (rss_nil))))))))
    (rss_one (rs_ret (re_blt (b_tuple T.n_tuple) (rar_cons (re_varR 2) (rar_nil)))))))
theorem b_q_powers (T : Txt P w K mg base) {f : Addr} (cdv : Value) (A : Around) (outer : List PySem.Env) (s : Shared) (H : Hp) (E : XK) (hr : Room 0 (A.deeper (envOfC "_law_powers" (defScope s_q_powers) s.heap.objs.size f cdv))) :
    RSs (cxOf (L2.CX P w) P w K mg base N_q_powers "_law_powers" (defScope s_q_powers) f cdv A outer s H E) (WD E) .S (defBody s_q_powers) e_q_powers :=
  rss_cons (rs_setO 1 sc_q_powers.nd (re_lst (ra_nil)))
    (rss_cons (rs_for (passes_of rfl) rfl (by exact (re_iter (re_share (re_lst (ra_cons (re_int) (ra_cons (re_int) (ra_cons (re_int) (ra_cons (re_int) (ra_cons (re_int) (ra_nil)))))))))) (by exact (gN 2 sc_q_powers.nd))
    (by exact (rss_cons (rs_set 3 sc_q_powers.nd (re_int))
    (rss_cons (rs_loop (passes_of rfl) (by exact (rt_cp (c_eq hr) (re_rd (re_mod (re_rd (re_var 0)) (re_rd (re_mul (re_rd (re_var 3)) (re_rd (re_var 2)))))) (re_rd (re_int)))) (by exact (rss_one (rs_set 3 sc_q_powers.nd (re_mul (re_rd (re_var 3)) (re_rd (re_var 2)))))))
    (rss_one (rs_if (rt_cp (c_gt) (re_rd (re_var 3)) (re_rd (re_int)))
    (rss_one (rs_append 1 (re_tup (ra_cons (re_var 2) (ra_cons (re_var 3) (ra_nil))))))
    (rss_nil)))))))
    (rss_one (rs_frz 1 (rs_ret (re_var 1)))))
theorem b_q_due (T : Txt P w K mg base) (M_q_powers : FnM P w K mg base 1 "_law_powers" .S d_q_powers) {f : Addr} (cdv : Value) (A : Around) (outer : List PySem.Env) (s : Shared) (H : Hp) (E : XK) (hr : Room 1 (A.deeper (envOfC "_law_due" (defScope s_q_due) s.heap.objs.size f cdv))) :
    RSs (cxOf (L2.CX P w) P w K mg base N_q_due "_law_due" (defScope s_q_due) f cdv A outer s H E) (WD E) .S (defBody s_q_due) e_q_due :=
  rss_cons (rs_setO 1 sc_q_due.nd (re_lst (ra_nil)))
    (rss_cons (rs_for (passes_of rfl) rfl (by exact (re_iter (re_var 0))) (by exact (gN 2 sc_q_due.nd))
    (by exact (rss_one (rs_extend 1 (re_call M_q_powers (hr.mono (by decide)) (takes_of rfl rfl rfl rfl) (ra_cons (re_var 2) (ra_nil)))))))
    (rss_cons (rs_setO 3 sc_q_due.nd (re_lst (ra_nil)))
    (rss_cons (rs_loop (passes_of rfl) (by exact (rt_cp (c_gt) (re_rd (re_blt (b_len T.n_len) (rar_cons (re_varR 1) (rar_nil)))) (re_rd (re_int)))) (by exact (rss_cons (rs_set 4 sc_q_due.nd (re_int))
    (rss_cons (rs_set 5 sc_q_due.nd (re_share (re_blt (b_sortedX hr T.n_sorted) (rar_cons (re_varR 1) (rar_nil)))))
    (rss_cons (rs_setO 1 sc_q_due.nd (re_lst (ra_nil)))
    (rss_cons (rs_for (passes_of rfl) rfl (by exact (ri_enumS T.n_enumerate (ra_cons (re_var 5) (ra_nil)))) (by exact (gT 2 rfl (gsc (gN 6 sc_q_due.nd) (gsc (gN 7 sc_q_due.nd) (gs0)))))
    (by exact (rss_one (rs_if (rt_pw (rw_and (rt_cp (c_lt) (re_rd (re_add (re_rd (re_var 6)) (re_rd (re_int)))) (re_rd (re_blt (b_len T.n_len) (rar_cons (re_rd (re_var 5)) (rar_nil))))) (rw_and1 (rt_cp (c_eq hr) (re_rd (re_ix hr (re_rd (re_ix hr (re_rd (re_var 5)) (re_rd (re_add (re_rd (re_var 6)) (re_rd (re_int)))))) (re_rd (re_int)))) (re_rd (re_ix hr (re_rd (re_var 7)) (re_rd (re_int))))))))
    (rss_one (rs_append 1 (re_var 7)))
    (rss_one (rs_set 4 sc_q_due.nd (re_mul (re_rd (re_var 4)) (re_rd (re_ix hr (re_rd (re_var 7)) (re_rd (re_int)))))))))))
    (rss_one (rs_append 3 (re_var 4)))))))))
    (rss_one (rs_ret (re_blt (b_tuple T.n_tuple) (rar_cons (re_rd (re_rev (re_varR 3))) (rar_nil))))))))
theorem b_Rounds_is_even (T : Txt P w K mg base) {f : Addr} (cdv : Value) (A : Around) (outer : List PySem.Env) (s : Shared) (H : Hp) (E : XK) (hr : Room 0 (A.deeper (envOfC "Rounds.is_even" (defScope s_Rounds_is_even) s.heap.objs.size f cdv))) :
    RSs (cxOf (L2.CX P w) P w K mg base N_Rounds_is_even "Rounds.is_even" (defScope s_Rounds_is_even) f cdv A outer s H E) (WD E) .S (defBody s_Rounds_is_even) e_Rounds_is_even :=
  rss_one (rs_ret (re_bl))
theorem b_Rounds_members (T : Txt P w K mg base) {f : Addr} (cdv : Value) (A : Around) (outer : List PySem.Env) (s : Shared) (H : Hp) (E : XK) (hr : Room 0 (A.deeper (envOfC "Rounds.members" (defScope s_Rounds_members) s.heap.objs.size f cdv))) :
    RSs (cxOf (L2.CX P w) P w K mg base N_Rounds_members "Rounds.members" (defScope s_Rounds_members) f cdv A outer s H E) (WD E) .S (defBody s_Rounds_members) e_Rounds_members :=
  rss_cons (rs_set 1 sc_Rounds_members.nd (re_share (re_lst (ra_cons (re_tup (ra_nil)) (ra_nil)))))
    (rss_cons (rs_for (passes_of rfl) rfl (by exact (re_iter (re_fld T.f_rounds (re_var 0)))) (by exact (gN 2 sc_Rounds_members.nd))
    (by exact (rss_cons (rs_setO 3 sc_Rounds_members.nd (re_lst (ra_nil)))
    (rss_cons (rs_for (passes_of rfl) rfl (by exact (re_iter (re_var 1))) (by exact (gN 4 sc_Rounds_members.nd))
    (by exact (rss_one (rs_extend 3 (re_share (re_lc [("here", 5)] rfl sc_Rounds_members.nd (ri_range1 (b := true) T.n_range (rar_cons (re_rd (re_var 2)) (rar_nil))) (blkOk_by (N := N_Rounds_members) (sc := defScope s_Rounds_members) (by decide +kernel)) (fun _ _ _ _ _ _ => by exact (gN 5 sc_Rounds_members.nd)) (fun _ _ _ _ _ => by exact (rts_nil)) (fun _ _ _ _ _ => by exact (re_add (re_rd (re_var 4)) (re_rd (re_tup (ra_cons (re_var 5) (ra_nil))))))))))))
    (rss_one (rs_frz 3 (rs_set 1 sc_Rounds_members.nd (re_var 3))))))))
    (rss_one (rs_ret (re_var 1))))
theorem b_break_of_two (T : Txt P w K mg base) (MT_members : ∀ c g, mt_members c = some g → MtM P w K mg base 1 "members" c .S g) {f : Addr} (cdv : Value) (A : Around) (outer : List PySem.Env) (s : Shared) (H : Hp) (E : XK) (hr : Room 1 (A.deeper (envOfC "break_of_two" (defScope s_break_of_two) s.heap.objs.size f cdv))) :
    RSs (cxOf (L2.CX P w) P w K mg base N_break_of_two "break_of_two" (defScope s_break_of_two) f cdv A outer s H E) (WD E) .S (defBody s_break_of_two) e_break_of_two :=
  rss_cons (rs_set 1 sc_break_of_two.nd (re_meth0 MT_members (hr.mono (by decide)) (takes_of rfl rfl rfl rfl) (re_fld T.f_upper (re_var 0))))
    (rss_cons (rs_for (passes_of rfl) rfl (by exact (re_iter (re_var 1))) (by exact (gN 2 sc_break_of_two.nd))
    (by exact (rss_one (rs_for (passes_of rfl) rfl (by exact (re_iter (re_var 1))) (by exact (gN 3 sc_break_of_two.nd))
    (by exact (rss_one (rs_if (rt_cp (c_ne hr) (re_never) (re_never))
    (rss_one (rs_ret (re_tup (ra_cons (re_var 2) (ra_cons (re_var 3) (ra_nil))))))
    (rss_nil))))))))
    (rss_one (rs_ret (re_non))))
theorem b_Rounds_nought (T : Txt P w K mg base) {f : Addr} (cdv : Value) (A : Around) (outer : List PySem.Env) (s : Shared) (H : Hp) (E : XK) (hr : Room 0 (A.deeper (envOfC "Rounds.nought" (defScope s_Rounds_nought) s.heap.objs.size f cdv))) :
    RSs (cxOf (L2.CX P w) P w K mg base N_Rounds_nought "Rounds.nought" (defScope s_Rounds_nought) f cdv A outer s H E) (WD E) .S (defBody s_Rounds_nought) e_Rounds_nought :=
  rss_one (rs_ret (re_blt (b_tuple T.n_tuple) (rar_cons (re_rd (re_lc [("number", 1)] rfl sc_Rounds_nought.nd (re_iter (re_fld T.f_rounds (re_var 0))) (blkOk_by (N := N_Rounds_nought) (sc := defScope s_Rounds_nought) (by decide +kernel)) (fun _ _ _ _ _ _ => by exact (gN 1 sc_Rounds_nought.nd)) (fun _ _ _ _ _ => by exact (rts_nil)) (fun _ _ _ _ _ => by exact (re_int)))) (rar_nil))))
theorem b_Rounds_put (T : Txt P w K mg base) {f : Addr} (cdv : Value) (A : Around) (outer : List PySem.Env) (s : Shared) (H : Hp) (E : XK) (hr : Room 0 (A.deeper (envOfC "Rounds.put" (defScope s_Rounds_put) s.heap.objs.size f cdv))) :
    RSs (cxOf (L2.CX P w) P w K mg base N_Rounds_put "Rounds.put" (defScope s_Rounds_put) f cdv A outer s H E) (WD E) .S (defBody s_Rounds_put) e_Rounds_put :=
  rss_one (rs_ret (re_blt (b_tuple T.n_tuple) (rar_cons (re_rd (re_lc [("a", 3), ("b", 4), ("number", 5)] rfl sc_Rounds_put.nd (ri_zip3 T.n_zip (ra_cons (re_var 1) (ra_cons (re_var 2) (ra_cons (re_fld T.f_rounds (re_var 0)) (ra_nil))))) (blkOk_by (N := N_Rounds_put) (sc := defScope s_Rounds_put) (by decide +kernel)) (fun _ _ _ _ _ _ => by exact (gT 3 rfl (gsc (gN 3 sc_Rounds_put.nd) (gsc (gN 4 sc_Rounds_put.nd) (gsc (gN 5 sc_Rounds_put.nd) (gs0)))))) (fun _ _ _ _ _ => by exact (rts_nil)) (fun _ _ _ _ _ => by exact (re_mod (re_rd (re_add (re_rd (re_var 3)) (re_rd (re_var 4)))) (re_rd (re_var 5)))))) (rar_nil))))
theorem b_times_of (T : Txt P w K mg base) (MT_nought : ∀ c g, mt_nought c = some g → MtM P w K mg base 1 "nought" c .S g) (MT_put : ∀ c g, mt_put c = some g → MtM P w K mg base 1 "put" c .S g) {f : Addr} (cdv : Value) (A : Around) (outer : List PySem.Env) (s : Shared) (H : Hp) (E : XK) (hr : Room 1 (A.deeper (envOfC "times_of" (defScope s_times_of) s.heap.objs.size f cdv))) :
    RSs (cxOf (L2.CX P w) P w K mg base N_times_of "times_of" (defScope s_times_of) f cdv A outer s H E) (WD E) .S (defBody s_times_of) e_times_of :=
  rss_cons (rs_setO 2 sc_times_of.nd (re_lst (ra_cons (re_var 1) (ra_nil))))
    (rss_cons (rs_loop (passes_of rfl) (by exact (rt_cp (c_ne hr) (re_rd (re_ix hr (re_varR 2) (re_rd (re_neg (re_rd (re_int)))))) (re_rd (re_meth0 MT_nought (hr.mono (by decide)) (takes_of rfl rfl rfl rfl) (re_var 0))))) (by exact (rss_one (rs_append 2 (re_meth MT_put (hr.mono (by decide)) (takes_of rfl rfl rfl rfl) (re_var 0) (ra_cons (re_ix hr (re_varR 2) (re_rd (re_neg (re_rd (re_int))))) (ra_cons (re_var 1) (ra_nil))))))))
    (rss_one (rs_frz 2 (rs_ret (re_var 2)))))
theorem b_widened (T : Txt P w K mg base) (MT_put : ∀ c g, mt_put c = some g → MtM P w K mg base 1 "put" c .S g) {f : Addr} (cdv : Value) (A : Around) (outer : List PySem.Env) (s : Shared) (H : Hp) (E : XK) (hr : Room 1 (A.deeper (envOfC "widened" (defScope s_widened) s.heap.objs.size f cdv))) :
    RSs (cxOf (L2.CX P w) P w K mg base N_widened "widened" (defScope s_widened) f cdv A outer s H E) (WD E) .S (defBody s_widened) e_widened :=
  rss_cons (rs_setO 3 sc_widened.nd (re_dic0))
    (rss_cons (rs_for (passes_of rfl) rfl (by exact (re_iter (re_var 1))) (by exact (gN 4 sc_widened.nd))
    (by exact (rss_one (rs_for (passes_of rfl) rfl (by exact (re_iter (re_var 2))) (by exact (gN 5 sc_widened.nd))
    (by exact (rss_one (rs_setItem 3 hr (re_bl) (re_rd (re_meth MT_put (hr.mono (by decide)) (takes_of rfl rfl rfl rfl) (re_var 0) (ra_cons (re_var 4) (ra_cons (re_var 5) (ra_nil))))))))))))
    (rss_one (rs_frz 3 (rs_ret (re_var 3)))))
theorem b_parts_of (T : Txt P w K mg base) (MT_nought : ∀ c g, mt_nought c = some g → MtM P w K mg base 1 "nought" c .S g) (MT_members : ∀ c g, mt_members c = some g → MtM P w K mg base 1 "members" c .S g) (M_times_of : FnM P w K mg base 2 "times_of" .S d_times_of) (M_widened : FnM P w K mg base 2 "widened" .S d_widened) {f : Addr} (cdv : Value) (A : Around) (outer : List PySem.Env) (s : Shared) (H : Hp) (E : XK) (hr : Room 2 (A.deeper (envOfC "parts_of" (defScope s_parts_of) s.heap.objs.size f cdv))) :
    RSs (cxOf (L2.CX P w) P w K mg base N_parts_of "parts_of" (defScope s_parts_of) f cdv A outer s H E) (WD E) (.O .flat) (defBody s_parts_of) e_parts_of :=
  rss_cons (rs_set 1 sc_parts_of.nd (re_meth0 MT_nought (hr.mono (by decide)) (takes_of rfl rfl rfl rfl) (re_var 0)))
    (rss_cons (rs_set 2 sc_parts_of.nd (re_share (re_dic1 hr (re_var 1) (re_bl))))
    (rss_cons (rs_shareLc 3 (rs_setLc 3 [("x", 7)] rfl sc_parts_of.nd (re_iter (re_meth0 MT_members (hr.mono (by decide)) (takes_of rfl rfl rfl rfl) (re_var 0))) (blkOk_by (N := N_parts_of) (sc := defScope s_parts_of) (by decide +kernel)) (fun _ _ _ _ _ _ => by exact (gN 7 sc_parts_of.nd)) (fun _ _ _ _ _ => by exact (rts_nil)) (fun _ _ _ _ _ => by exact (re_call M_times_of (hr.mono (by decide)) (takes0) (ra_cons (re_var 0) (ra_cons (re_var 7) (ra_nil)))))))
    (rss_cons (rs_setO 4 sc_parts_of.nd (re_lst (ra_nil)))
    (rss_cons (rs_loop (passes_of rfl) (by exact (rt_cp (c_lt) (re_rd (re_blt (b_len T.n_len) (rar_cons (re_rd (re_var 2)) (rar_nil)))) (re_rd (re_blt (b_len T.n_len) (rar_cons (re_rd (re_var 3)) (rar_nil)))))) (by exact (rss_cons (rs_set 5 sc_parts_of.nd (re_share (re_lst (ra_cons (re_var 1) (ra_nil)))))
    (rss_cons (rs_for (passes_of rfl) rfl (by exact (re_iter (re_var 3))) (by exact (gN 6 sc_parts_of.nd))
    (by exact (rss_one (rs_if (rt_pw (rw_and (rt_cp (c_gt) (re_rd (re_blt (b_len T.n_len) (rar_cons (re_rd (re_var 6)) (rar_nil)))) (re_rd (re_blt (b_len T.n_len) (rar_cons (re_rd (re_var 5)) (rar_nil))))) (rw_and1 (rt_not (rt_val (re_blt (b_anyT rfl T.n_any) (rar_cons (re_rd (re_lc [("x", 7)] rfl sc_parts_of.nd (re_iter (re_slice (re_rd (re_var 6)) (rp_none) (rp_some (re_rd (re_neg (re_rd (re_int))))))) (blkOk_by (N := N_parts_of) (sc := defScope s_parts_of) (by decide +kernel)) (fun _ _ _ _ _ _ => by exact (gN 7 sc_parts_of.nd)) (fun _ _ _ _ _ => by exact (rts_nil)) (fun _ _ _ _ _ => by exact (re_cp (c_in hr) (re_rd (re_var 7)) (re_rd (re_var 2)))))) (rar_nil))))))))
    (rss_one (rs_set 5 sc_parts_of.nd (re_var 6)))
    (rss_nil)))))
    (rss_cons (rs_append 4 (re_var 5))
    (rss_one (rs_set 2 sc_parts_of.nd (re_call M_widened (hr.mono (by decide)) (takes_of rfl rfl rfl rfl) (ra_cons (re_var 0) (ra_cons (re_var 2) (ra_cons (re_var 5) (ra_nil))))))))))))
    (rss_one (rs_retO 4))))))
theorem b_is_whole (T : Txt P w K mg base) {f : Addr} (cdv : Value) (A : Around) (outer : List PySem.Env) (s : Shared) (H : Hp) (E : XK) (hr : Room 0 (A.deeper (envOfC "is_whole" (defScope s_is_whole) s.heap.objs.size f cdv))) :
    RSs (cxOf (L2.CX P w) P w K mg base N_is_whole "is_whole" (defScope s_is_whole) f cdv A outer s H E) (WD E) .S (defBody s_is_whole) e_is_whole :=
  rss_one (rs_ret (re_and (re_blt (b_is T.isM T.n_isinstance) (rar_cons (re_rd (re_var 0)) (rar_cons (re_rd (re_ty T.n_int boot_ty_int)) (rar_nil)))) (re_one (re_not (re_blt (b_is T.isM T.n_isinstance) (rar_cons (re_rd (re_var 0)) (rar_cons (re_rd (re_ty T.n_bool boot_ty_bool)) (rar_nil))))))))
theorem b_are_rounds (T : Txt P w K mg base) (M_is_whole : FnM P w K mg base 1 "is_whole" .S d_is_whole) {f : Addr} (cdv : Value) (A : Around) (outer : List PySem.Env) (s : Shared) (H : Hp) (E : XK) (hr : Room 1 (A.deeper (envOfC "are_rounds" (defScope s_are_rounds) s.heap.objs.size f cdv))) :
    RSs (cxOf (L2.CX P w) P w K mg base N_are_rounds "are_rounds" (defScope s_are_rounds) f cdv A outer s H E) (WD E) .S (defBody s_are_rounds) e_are_rounds :=
  rss_cons (rs_if (rt_pw (rw_or (rt_not (rt_val (re_blt (b_is T.isM T.n_isinstance) (rar_cons (re_rd (re_var 0)) (rar_cons (re_rd (re_tup (ra_cons (re_ty T.n_list boot_ty_list) (ra_cons (re_ty T.n_tuple boot_ty_tuple) (ra_nil))))) (rar_nil)))))) (rw_or1 (rt_cp (c_gt) (re_rd (re_blt (b_len T.n_len) (rar_cons (re_rd (re_var 0)) (rar_nil)))) (re_rd (re_gI T.g_MOST_ROUNDS))))))
    (rss_one (rs_ret (re_bl)))
    (rss_nil))
    (rss_cons (rs_set 1 sc_are_rounds.nd (re_int))
    (rss_cons (rs_for (passes_of rfl) rfl (by exact (re_iter (re_var 0))) (by exact (gN 2 sc_are_rounds.nd))
    (by exact (rss_cons (rs_if (rt_pw (rw_or (rt_not (rt_val (re_call M_is_whole (hr.mono (by decide)) (takes_of rfl rfl rfl rfl) (ra_cons (re_var 2) (ra_nil))))) (rw_or (rt_cp (c_lt) (re_rd (re_var 2)) (re_rd (re_int))) (rw_or1 (rt_cp (c_gt) (re_rd (re_var 2)) (re_rd (re_gI T.g_MOST_ELEMENTS)))))))
    (rss_one (rs_ret (re_bl)))
    (rss_nil))
    (rss_one (rs_set 1 sc_are_rounds.nd (re_mul (re_rd (re_var 1)) (re_rd (re_var 2))))))))
    (rss_one (rs_ret (re_cp (c_le) (re_rd (re_var 1)) (re_rd (re_gI T.g_MOST_ELEMENTS)))))))
theorem b_Rounds_init (T : Txt P w K mg base) (M_are_rounds : FnM P w K mg base 2 "are_rounds" .S d_are_rounds) {f : Addr} (cdv : Value) (A : Around) (outer : List PySem.Env) (s : Shared) (H : Hp) (E : XK) (x : Addr) (hr : Room 2 (A.deeper (envOfC "Rounds.__init__" (defScope s_Rounds_init) s.heap.objs.size f cdv))) :
    RSs (cxOf (L2.CX P w) P w K mg base N_Rounds_init "Rounds.__init__" (defScope s_Rounds_init) f cdv A outer s H E) (WI x E) .S (defBody s_Rounds_init) e_Rounds_init :=
  rss_cons (rs_if (rt_not (rt_val (re_call M_are_rounds (hr.mono (by decide)) (takes_of rfl rfl rfl rfl) (ra_cons (re_var 1) (ra_nil)))))
    (rss_one (rs_raise0 T.e_NoRounds rfl (takes_of rfl rfl rfl rfl)))
    (rss_nil))
    (rss_one (rs_fldS 0 0 T.cl_Rounds_rounds (re_blt (b_tuple T.n_tuple) (rar_cons (re_rd (re_var 1)) (rar_nil)))))
theorem b_plainest (T : Txt P w K mg base) (MT_is_even : ∀ c g, mt_is_even c = some g → MtM P w K mg base 1 "is_even" c .S g) (M_break_of_two : FnM P w K mg base 2 "break_of_two" .S d_break_of_two) (M_parts_of : FnM P w K mg base 3 "parts_of" (.O .flat) d_parts_of) (MT_members : ∀ c g, mt_members c = some g → MtM P w K mg base 1 "members" c .S g) (MK_Rounds : MkM P w K mg base 3 0 d_Rounds_init) (MT_nought : ∀ c g, mt_nought c = some g → MtM P w K mg base 1 "nought" c .S g) (MT_put : ∀ c g, mt_put c = some g → MtM P w K mg base 1 "put" c .S g) {f : Addr} (cdv : Value) (A : Around) (outer : List PySem.Env) (s : Shared) (H : Hp) (E : XK) (hr : Room 4 (A.deeper (envOfC "plainest" (defScope s_plainest) s.heap.objs.size f cdv))) :
    RSs (cxOf (L2.CX P w) P w K mg base N_plainest "plainest" (defScope s_plainest) f cdv A outer s H E) (WD E) (.O (.parts [.sh, .flat, .flat])) (defBody s_plainest) e_plainest :=
  rss_cons (rs_if (rt_not (rt_val (re_meth0 MT_is_even (hr.mono (by decide)) (takes_of rfl rfl rfl rfl) (re_var 0))))
    (rss_one (rs_raise T.e_Uneven rfl (takes_of rfl rfl rfl rfl) (hr.mono (by decide)) (ra_cons (re_call M_break_of_two (hr.mono (by decide)) (takes_of rfl rfl rfl rfl) (ra_cons (re_fld T.f_table (re_var 0)) (ra_nil))) (ra_nil))))
    (rss_nil))
    (rss_cons (rs_setO 1 sc_plainest.nd (re_call M_parts_of (hr.mono (by decide)) (takes_of rfl rfl rfl rfl) (ra_cons (re_var 0) (ra_nil))))
    (rss_cons (rs_reverse 1)
    (rss_cons (rs_set 2 sc_plainest.nd (re_blt (b_tuple T.n_tuple) (rar_cons (re_rd (re_lc [("part", 8)] rfl sc_plainest.nd (re_iterR (re_varR 1)) (blkOk_by (N := N_plainest) (sc := defScope s_plainest) (by decide +kernel)) (fun _ _ _ _ _ _ => by exact (gN 8 sc_plainest.nd)) (fun _ _ _ _ _ => by exact (rts_nil)) (fun _ _ _ _ _ => by exact (re_blt (b_len T.n_len) (rar_cons (re_rd (re_var 8)) (rar_nil)))))) (rar_nil))))
    (rss_cons (rs_setO 3 sc_plainest.nd (re_dic0))
    (rss_cons (rs_setO 4 sc_plainest.nd (re_dic0))
    (rss_cons (rs_for (passes_of rfl) rfl (by exact (re_iter (re_meth0 MT_members (hr.mono (by decide)) (takes_of rfl rfl rfl rfl) (re_make MK_Rounds (hr.mono (by decide)) (takes_of rfl rfl rfl rfl) (ra_cons (re_var 2) (ra_nil)))))) (by exact (gN 5 sc_plainest.nd))
    (by exact (rss_cons (rs_set 6 sc_plainest.nd (re_meth0 MT_nought (hr.mono (by decide)) (takes_of rfl rfl rfl rfl) (re_var 0)))
    (rss_cons (rs_frz 1 (rs_for (passes_of rfl) rfl (by exact (ri_zip2 T.n_zip (ra_cons (re_var 5) (ra_cons (re_var 1) (ra_nil))))) (by exact (gT 2 rfl (gsc (gN 7 sc_plainest.nd) (gsc (gN 8 sc_plainest.nd) (gs0)))))
    (by exact (rss_one (rs_set 6 sc_plainest.nd (re_meth MT_put (hr.mono (by decide)) (takes_of rfl rfl rfl rfl) (re_var 0) (ra_cons (re_var 6) (ra_cons (re_ix hr (re_rd (re_var 8)) (re_rd (re_sub (re_rd (re_var 7)) (re_rd (re_int))))) (ra_nil)))))))))
    (rss_cons (rs_setItem 3 hr (re_var 5) (re_rd (re_var 6)))
    (rss_one (rs_setItem 4 hr (re_var 6) (re_rd (re_var 5)))))))))
    (rss_one (rs_ret2 3 4 (by decide) (re_var 2)))))))))
theorem b_q_whole (T : Txt P w K mg base) {f : Addr} (cdv : Value) (A : Around) (outer : List PySem.Env) (s : Shared) (H : Hp) (E : XK) (hr : Room 0 (A.deeper (envOfC "_law_whole" (defScope s_q_whole) s.heap.objs.size f cdv))) :
    RSs (cxOf (L2.CX P w) P w K mg base N_q_whole "_law_whole" (defScope s_q_whole) f cdv A outer s H E) (WD E) .S (defBody s_q_whole) e_q_whole :=
  rss_one (rs_ret (re_and (re_blt (b_is T.isM T.n_isinstance) (rar_cons (re_rd (re_var 0)) (rar_cons (re_rd (re_ty T.n_int boot_ty_int)) (rar_nil)))) (re_one (re_not (re_blt (b_is T.isM T.n_isinstance) (rar_cons (re_rd (re_var 0)) (rar_cons (re_rd (re_ty T.n_bool boot_ty_bool)) (rar_nil))))))))
theorem b_q_elements (T : Txt P w K mg base) {f : Addr} (cdv : Value) (A : Around) (outer : List PySem.Env) (s : Shared) (H : Hp) (E : XK) (hr : Room 0 (A.deeper (envOfC "_law_elements" (defScope s_q_elements) s.heap.objs.size f cdv))) :
    RSs (cxOf (L2.CX P w) P w K mg base N_q_elements "_law_elements" (defScope s_q_elements) f cdv A outer s H E) (WD E) .S (defBody s_q_elements) e_q_elements :=
  rss_cons (rs_set 1 sc_q_elements.nd (re_share (re_lst (ra_cons (re_tup (ra_nil)) (ra_nil)))))
    (rss_cons (rs_for (passes_of rfl) rfl (by exact (re_iter (re_var 0))) (by exact (gN 2 sc_q_elements.nd))
    (by exact (rss_cons (rs_setO 3 sc_q_elements.nd (re_lst (ra_nil)))
    (rss_cons (rs_for (passes_of rfl) rfl (by exact (re_iter (re_var 1))) (by exact (gN 4 sc_q_elements.nd))
    (by exact (rss_one (rs_extend 3 (re_share (re_lc [("_law_here", 5)] rfl sc_q_elements.nd (ri_range1 (b := true) T.n_range (rar_cons (re_rd (re_var 2)) (rar_nil))) (blkOk_by (N := N_q_elements) (sc := defScope s_q_elements) (by decide +kernel)) (fun _ _ _ _ _ _ => by exact (gN 5 sc_q_elements.nd)) (fun _ _ _ _ _ => by exact (rts_nil)) (fun _ _ _ _ _ => by exact (re_add (re_rd (re_var 4)) (re_rd (re_tup (ra_cons (re_var 5) (ra_nil))))))))))))
    (rss_one (rs_frz 3 (rs_set 1 sc_q_elements.nd (re_var 3))))))))
    (rss_one (rs_ret (re_var 1))))
theorem b_q_plus (T : Txt P w K mg base) {f : Addr} (cdv : Value) (A : Around) (outer : List PySem.Env) (s : Shared) (H : Hp) (E : XK) (hr : Room 0 (A.deeper (envOfC "_law_plus" (defScope s_q_plus) s.heap.objs.size f cdv))) :
    RSs (cxOf (L2.CX P w) P w K mg base N_q_plus "_law_plus" (defScope s_q_plus) f cdv A outer s H E) (WD E) .S (defBody s_q_plus) e_q_plus :=
  rss_one (rs_ret (re_blt (b_tuple T.n_tuple) (rar_cons (re_rd (re_lc [("_law_one", 3), ("_law_other", 4), ("_law_number", 5)] rfl sc_q_plus.nd (ri_zip3 T.n_zip (ra_cons (re_var 1) (ra_cons (re_var 2) (ra_cons (re_var 0) (ra_nil))))) (blkOk_by (N := N_q_plus) (sc := defScope s_q_plus) (by decide +kernel)) (fun _ _ _ _ _ _ => by exact (gT 3 rfl (gsc (gN 3 sc_q_plus.nd) (gsc (gN 4 sc_q_plus.nd) (gsc (gN 5 sc_q_plus.nd) (gs0)))))) (fun _ _ _ _ _ => by exact (rts_nil)) (fun _ _ _ _ _ => by exact (re_mod (re_rd (re_add (re_rd (re_var 3)) (re_rd (re_var 4)))) (re_rd (re_var 5)))))) (rar_nil))))
theorem b_q_leads (T : Txt P w K mg base) (M_q_elements : FnM P w K mg base 1 "_law_elements" .S d_q_elements) (M_q_cell : FnM P w K mg base 1 "_law_cell" .S d_q_cell) (M_q_plus : FnM P w K mg base 1 "_law_plus" .S d_q_plus) {f : Addr} (cdv : Value) (A : Around) (outer : List PySem.Env) (s : Shared) (H : Hp) (E : XK) (hr : Room 1 (A.deeper (envOfC "_law_leads" (defScope s_q_leads) s.heap.objs.size f cdv))) :
    RSs (cxOf (L2.CX P w) P w K mg base N_q_leads "_law_leads" (defScope s_q_leads) f cdv A outer s H E) (WD E) .S (defBody s_q_leads) e_q_leads :=
  rss_cons (rs_asg (re_var 1) (gT 3 rfl (gsc (gN 3 sc_q_leads.nd) (gsc (gN 4 sc_q_leads.nd) (gsc (gN 5 sc_q_leads.nd) (gs0))))))
    (rss_cons (rs_set 6 sc_q_leads.nd (re_call M_q_elements (hr.mono (by decide)) (takes_of rfl rfl rfl rfl) (ra_cons (re_var 0) (ra_nil))))
    (rss_cons (rs_if (rt_pw (rw_or (rt_not (rt_val (re_blt (b_is T.isM T.n_isinstance) (rar_cons (re_rd (re_var 4)) (rar_cons (re_rd (re_ty T.n_dict boot_ty_dict)) (rar_nil)))))) (rw_or (rt_not (rt_val (re_blt (b_is T.isM T.n_isinstance) (rar_cons (re_rd (re_var 5)) (rar_cons (re_rd (re_ty T.n_dict boot_ty_dict)) (rar_nil)))))) (rw_or1 (rt_cp (c_ne hr) (re_rd (re_blt (b_sorted rfl T.n_sorted) (rar_cons (re_rd (re_var 4)) (rar_nil)))) (re_rd (re_var 6)))))))
    (rss_one (rs_ret (re_bl)))
    (rss_nil))
    (rss_cons (rs_if (rt_pw (rw_or (rt_cp (c_ne hr) (re_rd (re_blt (b_sorted rfl T.n_sorted) (rar_cons (re_rd (re_var 5)) (rar_nil)))) (re_rd (re_call M_q_elements (hr.mono (by decide)) (takes_of rfl rfl rfl rfl) (ra_cons (re_var 3) (ra_nil))))) (rw_or1 (rt_cp (c_ne hr) (re_rd (re_sortVS hr rfl T.n_sorted (re_rd (re_var 4)))) (re_rd (re_blt (b_sorted rfl T.n_sorted) (rar_cons (re_rd (re_var 5)) (rar_nil))))))))
    (rss_one (rs_ret (re_bl)))
    (rss_nil))
    (rss_cons (rs_if (rt_val (re_blt (b_anyT rfl T.n_any) (rar_cons (re_rd (re_lc [("_law_x", 9)] rfl sc_q_leads.nd (re_iter (re_var 6)) (blkOk_by (N := N_q_leads) (sc := defScope s_q_leads) (by decide +kernel)) (fun _ _ _ _ _ _ => by exact (gN 9 sc_q_leads.nd)) (fun _ _ _ _ _ => by exact (rts_nil)) (fun _ _ _ _ _ => by exact (re_cp (c_ne hr) (re_rd (re_ix hr (re_rd (re_var 5)) (re_rd (re_ix hr (re_rd (re_var 4)) (re_rd (re_var 9)))))) (re_rd (re_var 9)))))) (rar_nil))))
    (rss_one (rs_ret (re_bl)))
    (rss_nil))
    (rss_cons (rs_shareLc 7 (rs_setLc 7 [("_law_at", 12)] rfl sc_q_leads.nd (ri_range1 (b := true) T.n_range (rar_cons (re_rd (re_blt (b_len T.n_len) (rar_cons (re_rd (re_var 0)) (rar_nil)))) (rar_nil))) (blkOk_by (N := N_q_leads) (sc := defScope s_q_leads) (by decide +kernel)) (fun _ _ _ _ _ _ => by exact (gN 12 sc_q_leads.nd)) (fun _ _ _ _ _ => by exact (rts_nil)) (fun _ _ _ _ _ => by exact (re_blt (b_tuple T.n_tuple) (rar_cons (re_rd (re_lc [("_law_k", 10)] rfl sc_q_leads.nd (ri_range1 (b := true) T.n_range (rar_cons (re_rd (re_blt (b_len T.n_len) (rar_cons (re_rd (re_var 0)) (rar_nil)))) (rar_nil))) (blkOk_by (by kernel_rfl)) (fun _ _ _ _ _ _ => by exact (gN 10 sc_q_leads.nd)) (fun _ _ _ _ _ => by exact (rts_nil)) (fun _ _ _ _ _ => by exact (re_blt (b_int T.n_int) (rar_cons (re_rd (re_cp (c_eq hr) (re_rd (re_var 10)) (re_rd (re_var 12)))) (rar_nil)))))) (rar_nil))))))
    (rss_cons (rs_setO 8 sc_q_leads.nd (re_lst (ra_nil)))
    (rss_cons (rs_for (passes_of rfl) rfl (by exact (re_iter (re_var 7))) (by exact (gN 9 sc_q_leads.nd))
    (by exact (rss_one (rs_extend 8 (re_share (re_lc [("_law_y", 13)] rfl sc_q_leads.nd (re_iter (re_var 6)) (blkOk_by (N := N_q_leads) (sc := defScope s_q_leads) (by decide +kernel)) (fun _ _ _ _ _ _ => by exact (gN 13 sc_q_leads.nd)) (fun _ _ _ _ _ => by exact (rts_nil)) (fun _ _ _ _ _ => by exact (re_tup (ra_cons (re_var 9) (ra_cons (re_var 13) (ra_nil)))))))))))
    (rss_cons (rs_for (passes_of rfl) rfl (by exact (ri_range1 (b := true) T.n_range (rar_cons (re_rd (re_int)) (rar_nil)))) (by exact (gN 10 sc_q_leads.nd))
    (by exact (rss_cons (rs_set 11 sc_q_leads.nd (re_ix hr (re_rd (re_var 6)) (re_rd (re_mod (re_rd (re_call M_q_cell (hr.mono (by decide)) (takes_of rfl rfl rfl rfl) (ra_cons (re_var 2) (ra_cons (re_add (re_rd (re_int)) (re_rd (re_mul (re_rd (re_int)) (re_rd (re_var 10))))) (ra_nil))))) (re_rd (re_blt (b_len T.n_len) (rar_cons (re_rd (re_var 6)) (rar_nil))))))))
    (rss_one (rs_append 8 (re_tup (ra_cons (re_var 11) (ra_cons (re_ix hr (re_rd (re_var 6)) (re_rd (re_mod (re_rd (re_call M_q_cell (hr.mono (by decide)) (takes_of rfl rfl rfl rfl) (ra_cons (re_var 2) (ra_cons (re_add (re_rd (re_int)) (re_rd (re_mul (re_rd (re_int)) (re_rd (re_var 10))))) (ra_nil))))) (re_rd (re_blt (b_len T.n_len) (rar_cons (re_rd (re_var 6)) (rar_nil))))))) (ra_nil)))))))))
    (rss_one (rs_ret (re_blt (b_allT rfl T.n_all) (rar_cons (re_rd (re_lc [("_law_x", 9), ("_law_y", 13)] rfl sc_q_leads.nd (re_iterR (re_varR 8)) (blkOk_by (N := N_q_leads) (sc := defScope s_q_leads) (by decide +kernel)) (fun _ _ _ _ _ _ => by exact (gT 2 rfl (gsc (gN 9 sc_q_leads.nd) (gsc (gN 13 sc_q_leads.nd) (gs0))))) (fun _ _ _ _ _ => by exact (rts_nil)) (fun _ _ _ _ _ => by exact (re_cp (c_eq hr) (re_rd (re_ix hr (re_rd (re_var 4)) (re_rd (re_call M_q_plus (hr.mono (by decide)) (takes0) (ra_cons (re_var 0) (ra_cons (re_var 9) (ra_cons (re_var 13) (ra_nil)))))))) (re_rd (re_call M_q_plus (hr.mono (by decide)) (takes0) (ra_cons (re_var 3) (ra_cons (re_ix hr (re_rd (re_var 4)) (re_rd (re_var 9))) (ra_cons (re_ix hr (re_rd (re_var 4)) (re_rd (re_var 13))) (ra_nil)))))))))) (rar_nil)))))))))))))
theorem b_law (T : Txt P w K mg base) (M_q_rounds : FnM P w K mg base 2 "_law_rounds" .S d_q_rounds) (M_q_due : FnM P w K mg base 2 "_law_due" .S d_q_due) (M_plainest : FnM P w K mg base 5 "plainest" (.O (.parts [.sh, .flat, .flat])) d_plainest) (MK_Rounds : MkM P w K mg base 3 0 d_Rounds_init) (M_q_whole : FnM P w K mg base 1 "_law_whole" .S d_q_whole) (M_q_leads : FnM P w K mg base 2 "_law_leads" .S d_q_leads) {f : Addr} (cdv : Value) (A : Around) (outer : List PySem.Env) (s : Shared) (H : Hp) (E : XK) (hr : Room 5 (A.deeper (envOfC "law" (defScope s_law) s.heap.objs.size f cdv))) :
    RSs (cxOf (L2.CX P w) P w K mg base N_law "law" (defScope s_law) f cdv A outer s H E) (WD E) .S (defBody s_law) e_law :=
  rss_cons (rs_set 1 sc_law.nd (re_call M_q_rounds (hr.mono (by decide)) (takes_of rfl rfl rfl rfl) (ra_cons (re_var 0) (ra_nil))))
    (rss_cons (rs_set 2 sc_law.nd (re_call M_q_due (hr.mono (by decide)) (takes_of rfl rfl rfl rfl) (ra_cons (re_var 1) (ra_nil))))
    (rss_cons (rs_for (passes_of rfl) rfl (by exact (ri_range1 (b := true) T.n_range (rar_cons (re_rd (re_int)) (rar_nil)))) (by exact (gN 3 sc_law.nd))
    (by exact (rss_cons (rs_setO 4 sc_law.nd (re_call M_plainest (hr.mono (by decide)) (takes_of rfl rfl rfl rfl) (ra_cons (re_make MK_Rounds (hr.mono (by decide)) (takes_of rfl rfl rfl rfl) (ra_cons (re_var 1) (ra_nil))) (ra_nil))))
    (rss_cons (rs_if (rt_lendP 4 (rt_pw (rw_or (rt_not (rt_val (re_blt (b_is T.isM T.n_isinstance) (rar_cons (re_rd (re_var 4)) (rar_cons (re_rd (re_ty T.n_tuple boot_ty_tuple)) (rar_nil)))))) (rw_or (rt_cp (c_ne hr) (re_rd (re_blt (b_len T.n_len) (rar_cons (re_rd (re_var 4)) (rar_nil)))) (re_rd (re_int))) (rw_or (rt_not (rt_val (re_blt (b_is T.isM T.n_isinstance) (rar_cons (re_part 4 0) (rar_cons (re_rd (re_ty T.n_tuple boot_ty_tuple)) (rar_nil)))))) (rw_or1 (rt_cp (c_ne hr) (re_part 4 0) (re_rd (re_var 2)))))))))
    (rss_one (rs_ret (re_bl)))
    (rss_nil))
    (rss_cons (rs_if (rt_lendP 4 (rt_pw (rw_or (rt_not (rt_val (re_blt (b_allT rfl T.n_all) (rar_cons (re_rd (re_lc [("_law_number", 5)] rfl sc_law.nd (re_iter (re_ix hr (re_rd (re_var 4)) (re_rd (re_int)))) (blkOk_by (N := N_law) (sc := defScope s_law) (by decide +kernel)) (fun _ _ _ _ _ _ => by exact (gN 5 sc_law.nd)) (fun _ _ _ _ _ => by exact (rts_nil)) (fun _ _ _ _ _ => by exact (re_call M_q_whole (hr.mono (by decide)) (takes0) (ra_cons (re_var 5) (ra_nil)))))) (rar_nil))))) (rw_or1 (rt_not (rt_val (re_call M_q_leads (hr.mono (by decide)) (takes_of rfl rfl rfl rfl) (ra_cons (re_var 1) (ra_cons (re_var 4) (ra_cons (re_var 0) (ra_nil)))))))))))
    (rss_one (rs_ret (re_bl)))
    (rss_nil))
    (rss_cons (rs_clrTI 4 1)
    (rss_one (rs_clrTI 4 2))))))))
    (rss_one (rs_ret (re_bl)))))
end
end
theorem all_mk {P q : Program} {w : World} {K : PySem.W.Frag} {h : Heap} {mg : Str → Option Value} {fa C_CarryError C_NoRounds C_NoElement C_Uneven C_Group C_Rounds f_q_cell f_q_rounds f_q_powers f_q_due f_Rounds_is_even f_Uneven_init f_Rounds_members f_break_of_two f_Rounds_nought f_Rounds_put f_times_of f_widened f_parts_of f_is_whole f_are_rounds f_Rounds_init f_plainest f_q_whole f_q_elements f_q_plus f_q_leads f_law : Addr} (X : K.In h) (G : h.Ns mainGlobals mg) (hfa : mg "law" = some (.ref fa))
    {oc_q_cell kV_q_cell dc_q_cell pm_q_cell cd_q_cell ct_q_cell : Value} {od_q_cell an_q_cell : Option Addr} {sl_q_cell : Array (Option Value)}
    {oc_q_rounds kV_q_rounds dc_q_rounds pm_q_rounds cd_q_rounds ct_q_rounds : Value} {od_q_rounds an_q_rounds : Option Addr} {sl_q_rounds : Array (Option Value)}
    {oc_q_powers kV_q_powers dc_q_powers pm_q_powers cd_q_powers ct_q_powers : Value} {od_q_powers an_q_powers : Option Addr} {sl_q_powers : Array (Option Value)}
    {oc_q_due kV_q_due dc_q_due pm_q_due cd_q_due ct_q_due : Value} {od_q_due an_q_due : Option Addr} {sl_q_due : Array (Option Value)}
    {oc_Rounds_is_even kV_Rounds_is_even dc_Rounds_is_even pm_Rounds_is_even cd_Rounds_is_even ct_Rounds_is_even : Value} {od_Rounds_is_even an_Rounds_is_even : Option Addr} {sl_Rounds_is_even : Array (Option Value)}
    {oc_Uneven_init kV_Uneven_init dc_Uneven_init pm_Uneven_init cd_Uneven_init ct_Uneven_init : Value} {od_Uneven_init an_Uneven_init : Option Addr} {sl_Uneven_init : Array (Option Value)}
    {oc_Rounds_members kV_Rounds_members dc_Rounds_members pm_Rounds_members cd_Rounds_members ct_Rounds_members : Value} {od_Rounds_members an_Rounds_members : Option Addr} {sl_Rounds_members : Array (Option Value)}
    {oc_break_of_two kV_break_of_two dc_break_of_two pm_break_of_two cd_break_of_two ct_break_of_two : Value} {od_break_of_two an_break_of_two : Option Addr} {sl_break_of_two : Array (Option Value)}
    {oc_Rounds_nought kV_Rounds_nought dc_Rounds_nought pm_Rounds_nought cd_Rounds_nought ct_Rounds_nought : Value} {od_Rounds_nought an_Rounds_nought : Option Addr} {sl_Rounds_nought : Array (Option Value)}
    {oc_Rounds_put kV_Rounds_put dc_Rounds_put pm_Rounds_put cd_Rounds_put ct_Rounds_put : Value} {od_Rounds_put an_Rounds_put : Option Addr} {sl_Rounds_put : Array (Option Value)}
    {oc_times_of kV_times_of dc_times_of pm_times_of cd_times_of ct_times_of : Value} {od_times_of an_times_of : Option Addr} {sl_times_of : Array (Option Value)}
    {oc_widened kV_widened dc_widened pm_widened cd_widened ct_widened : Value} {od_widened an_widened : Option Addr} {sl_widened : Array (Option Value)}
    {oc_parts_of kV_parts_of dc_parts_of pm_parts_of cd_parts_of ct_parts_of : Value} {od_parts_of an_parts_of : Option Addr} {sl_parts_of : Array (Option Value)}
    {oc_is_whole kV_is_whole dc_is_whole pm_is_whole cd_is_whole ct_is_whole : Value} {od_is_whole an_is_whole : Option Addr} {sl_is_whole : Array (Option Value)}
    {oc_are_rounds kV_are_rounds dc_are_rounds pm_are_rounds cd_are_rounds ct_are_rounds : Value} {od_are_rounds an_are_rounds : Option Addr} {sl_are_rounds : Array (Option Value)}
    {oc_Rounds_init kV_Rounds_init dc_Rounds_init pm_Rounds_init cd_Rounds_init ct_Rounds_init : Value} {od_Rounds_init an_Rounds_init : Option Addr} {sl_Rounds_init : Array (Option Value)}
    {oc_plainest kV_plainest dc_plainest pm_plainest cd_plainest ct_plainest : Value} {od_plainest an_plainest : Option Addr} {sl_plainest : Array (Option Value)}
    {oc_q_whole kV_q_whole dc_q_whole pm_q_whole cd_q_whole ct_q_whole : Value} {od_q_whole an_q_whole : Option Addr} {sl_q_whole : Array (Option Value)}
    {oc_q_elements kV_q_elements dc_q_elements pm_q_elements cd_q_elements ct_q_elements : Value} {od_q_elements an_q_elements : Option Addr} {sl_q_elements : Array (Option Value)}
    {oc_q_plus kV_q_plus dc_q_plus pm_q_plus cd_q_plus ct_q_plus : Value} {od_q_plus an_q_plus : Option Addr} {sl_q_plus : Array (Option Value)}
    {oc_q_leads kV_q_leads dc_q_leads pm_q_leads cd_q_leads ct_q_leads : Value} {od_q_leads an_q_leads : Option Addr} {sl_q_leads : Array (Option Value)}
    {oc_law kV_law dc_law pm_law cd_law ct_law : Value} {od_law an_law : Option Addr} {sl_law : Array (Option Value)}
    {nm_Uneven q_Uneven : Str} {NA_Uneven : Addr} {bs_Uneven bm_Uneven : List Value} {sn_Uneven : List Str} {sub_Uneven : List Value} {ab_Uneven : Bool} {col_Uneven : Option Bool} {dd_Uneven : Option Addr} {k0_Uneven k1_Uneven k2_Uneven k3_Uneven k5_Uneven : Option Value}
    {t_MOST_ROUNDS : Tok}
    {t_MOST_ELEMENTS : Tok}
    (aC_CarryError : PySem.W.nsIn K mainGlobals "CarryError" = some (some (.ref C_CarryError)))
    (aC_NoRounds : PySem.W.nsIn K mainGlobals "NoRounds" = some (some (.ref C_NoRounds)))
    (aC_NoElement : PySem.W.nsIn K mainGlobals "NoElement" = some (some (.ref C_NoElement)))
    (aC_Uneven : PySem.W.nsIn K mainGlobals "Uneven" = some (some (.ref C_Uneven)))
    (aC_Group : PySem.W.nsIn K mainGlobals "Group" = some (some (.ref C_Group)))
    (aC_Rounds : PySem.W.nsIn K mainGlobals "Rounds" = some (some (.ref C_Rounds)))
    (a_q_cell : PySem.W.nsIn K mainGlobals "_law_cell" = some (some (.ref f_q_cell)))
    (l_q_cell : K.lookup f_q_cell = some ⟨oc_q_cell, od_q_cell, .func (PySem.W.fnOf "_law_cell" "_law_cell" (defArgs s_q_cell) (defBody s_q_cell) (defScope s_q_cell) .none kV_q_cell dc_q_cell pm_q_cell an_q_cell cd_q_cell ct_q_cell), sl_q_cell⟩)
    (c_q_cell : PySem.W.codeIn K cd_q_cell "_law_cell" = true) (k_q_cell : PySem.W.keepIn K (.ref f_q_cell) = true)
    (a_q_rounds : PySem.W.nsIn K mainGlobals "_law_rounds" = some (some (.ref f_q_rounds)))
    (l_q_rounds : K.lookup f_q_rounds = some ⟨oc_q_rounds, od_q_rounds, .func (PySem.W.fnOf "_law_rounds" "_law_rounds" (defArgs s_q_rounds) (defBody s_q_rounds) (defScope s_q_rounds) .none kV_q_rounds dc_q_rounds pm_q_rounds an_q_rounds cd_q_rounds ct_q_rounds), sl_q_rounds⟩)
    (c_q_rounds : PySem.W.codeIn K cd_q_rounds "_law_rounds" = true) (k_q_rounds : PySem.W.keepIn K (.ref f_q_rounds) = true)
    (a_q_powers : PySem.W.nsIn K mainGlobals "_law_powers" = some (some (.ref f_q_powers)))
    (l_q_powers : K.lookup f_q_powers = some ⟨oc_q_powers, od_q_powers, .func (PySem.W.fnOf "_law_powers" "_law_powers" (defArgs s_q_powers) (defBody s_q_powers) (defScope s_q_powers) .none kV_q_powers dc_q_powers pm_q_powers an_q_powers cd_q_powers ct_q_powers), sl_q_powers⟩)
    (c_q_powers : PySem.W.codeIn K cd_q_powers "_law_powers" = true) (k_q_powers : PySem.W.keepIn K (.ref f_q_powers) = true)
    (a_q_due : PySem.W.nsIn K mainGlobals "_law_due" = some (some (.ref f_q_due)))
    (l_q_due : K.lookup f_q_due = some ⟨oc_q_due, od_q_due, .func (PySem.W.fnOf "_law_due" "_law_due" (defArgs s_q_due) (defBody s_q_due) (defScope s_q_due) .none kV_q_due dc_q_due pm_q_due an_q_due cd_q_due ct_q_due), sl_q_due⟩)
    (c_q_due : PySem.W.codeIn K cd_q_due "_law_due" = true) (k_q_due : PySem.W.keepIn K (.ref f_q_due) = true)
    (a_Rounds_is_even : PySem.W.findIn K (.ref C_Rounds) "is_even" = some (some (.ref f_Rounds_is_even)))
    (l_Rounds_is_even : K.lookup f_Rounds_is_even = some ⟨oc_Rounds_is_even, od_Rounds_is_even, .func (PySem.W.fnOf "is_even" "Rounds.is_even" (defArgs s_Rounds_is_even) (defBody s_Rounds_is_even) (defScope s_Rounds_is_even) .none kV_Rounds_is_even dc_Rounds_is_even pm_Rounds_is_even an_Rounds_is_even cd_Rounds_is_even ct_Rounds_is_even), sl_Rounds_is_even⟩)
    (c_Rounds_is_even : PySem.W.codeIn K cd_Rounds_is_even "Rounds.is_even" = true) (k_Rounds_is_even : PySem.W.keepIn K (.ref f_Rounds_is_even) = true)
    (i_Rounds_is_even : PySem.W.isFn K (.ref f_Rounds_is_even) = true)
    (a_Uneven_init : PySem.W.findIn K (.ref C_Uneven) "__init__" = some (some (.ref f_Uneven_init)))
    (l_Uneven_init : K.lookup f_Uneven_init = some ⟨oc_Uneven_init, od_Uneven_init, .func (PySem.W.fnOf "__init__" "Uneven.__init__" (defArgs s_Uneven_init) (defBody s_Uneven_init) (defScope s_Uneven_init) .none kV_Uneven_init dc_Uneven_init pm_Uneven_init an_Uneven_init cd_Uneven_init ct_Uneven_init), sl_Uneven_init⟩)
    (c_Uneven_init : PySem.W.codeIn K cd_Uneven_init "Uneven.__init__" = true) (k_Uneven_init : PySem.W.keepIn K (.ref f_Uneven_init) = true)
    (a_Rounds_members : PySem.W.findIn K (.ref C_Rounds) "members" = some (some (.ref f_Rounds_members)))
    (l_Rounds_members : K.lookup f_Rounds_members = some ⟨oc_Rounds_members, od_Rounds_members, .func (PySem.W.fnOf "members" "Rounds.members" (defArgs s_Rounds_members) (defBody s_Rounds_members) (defScope s_Rounds_members) .none kV_Rounds_members dc_Rounds_members pm_Rounds_members an_Rounds_members cd_Rounds_members ct_Rounds_members), sl_Rounds_members⟩)
    (c_Rounds_members : PySem.W.codeIn K cd_Rounds_members "Rounds.members" = true) (k_Rounds_members : PySem.W.keepIn K (.ref f_Rounds_members) = true)
    (i_Rounds_members : PySem.W.isFn K (.ref f_Rounds_members) = true)
    (a_break_of_two : PySem.W.nsIn K mainGlobals "break_of_two" = some (some (.ref f_break_of_two)))
    (l_break_of_two : K.lookup f_break_of_two = some ⟨oc_break_of_two, od_break_of_two, .func (PySem.W.fnOf "break_of_two" "break_of_two" (defArgs s_break_of_two) (defBody s_break_of_two) (defScope s_break_of_two) .none kV_break_of_two dc_break_of_two pm_break_of_two an_break_of_two cd_break_of_two ct_break_of_two), sl_break_of_two⟩)
    (c_break_of_two : PySem.W.codeIn K cd_break_of_two "break_of_two" = true) (k_break_of_two : PySem.W.keepIn K (.ref f_break_of_two) = true)
    (a_Rounds_nought : PySem.W.findIn K (.ref C_Rounds) "nought" = some (some (.ref f_Rounds_nought)))
    (l_Rounds_nought : K.lookup f_Rounds_nought = some ⟨oc_Rounds_nought, od_Rounds_nought, .func (PySem.W.fnOf "nought" "Rounds.nought" (defArgs s_Rounds_nought) (defBody s_Rounds_nought) (defScope s_Rounds_nought) .none kV_Rounds_nought dc_Rounds_nought pm_Rounds_nought an_Rounds_nought cd_Rounds_nought ct_Rounds_nought), sl_Rounds_nought⟩)
    (c_Rounds_nought : PySem.W.codeIn K cd_Rounds_nought "Rounds.nought" = true) (k_Rounds_nought : PySem.W.keepIn K (.ref f_Rounds_nought) = true)
    (i_Rounds_nought : PySem.W.isFn K (.ref f_Rounds_nought) = true)
    (a_Rounds_put : PySem.W.findIn K (.ref C_Rounds) "put" = some (some (.ref f_Rounds_put)))
    (l_Rounds_put : K.lookup f_Rounds_put = some ⟨oc_Rounds_put, od_Rounds_put, .func (PySem.W.fnOf "put" "Rounds.put" (defArgs s_Rounds_put) (defBody s_Rounds_put) (defScope s_Rounds_put) .none kV_Rounds_put dc_Rounds_put pm_Rounds_put an_Rounds_put cd_Rounds_put ct_Rounds_put), sl_Rounds_put⟩)
    (c_Rounds_put : PySem.W.codeIn K cd_Rounds_put "Rounds.put" = true) (k_Rounds_put : PySem.W.keepIn K (.ref f_Rounds_put) = true)
    (i_Rounds_put : PySem.W.isFn K (.ref f_Rounds_put) = true)
    (a_times_of : PySem.W.nsIn K mainGlobals "times_of" = some (some (.ref f_times_of)))
    (l_times_of : K.lookup f_times_of = some ⟨oc_times_of, od_times_of, .func (PySem.W.fnOf "times_of" "times_of" (defArgs s_times_of) (defBody s_times_of) (defScope s_times_of) .none kV_times_of dc_times_of pm_times_of an_times_of cd_times_of ct_times_of), sl_times_of⟩)
    (c_times_of : PySem.W.codeIn K cd_times_of "times_of" = true) (k_times_of : PySem.W.keepIn K (.ref f_times_of) = true)
    (a_widened : PySem.W.nsIn K mainGlobals "widened" = some (some (.ref f_widened)))
    (l_widened : K.lookup f_widened = some ⟨oc_widened, od_widened, .func (PySem.W.fnOf "widened" "widened" (defArgs s_widened) (defBody s_widened) (defScope s_widened) .none kV_widened dc_widened pm_widened an_widened cd_widened ct_widened), sl_widened⟩)
    (c_widened : PySem.W.codeIn K cd_widened "widened" = true) (k_widened : PySem.W.keepIn K (.ref f_widened) = true)
    (a_parts_of : PySem.W.nsIn K mainGlobals "parts_of" = some (some (.ref f_parts_of)))
    (l_parts_of : K.lookup f_parts_of = some ⟨oc_parts_of, od_parts_of, .func (PySem.W.fnOf "parts_of" "parts_of" (defArgs s_parts_of) (defBody s_parts_of) (defScope s_parts_of) .none kV_parts_of dc_parts_of pm_parts_of an_parts_of cd_parts_of ct_parts_of), sl_parts_of⟩)
    (c_parts_of : PySem.W.codeIn K cd_parts_of "parts_of" = true) (k_parts_of : PySem.W.keepIn K (.ref f_parts_of) = true)
    (a_is_whole : PySem.W.nsIn K mainGlobals "is_whole" = some (some (.ref f_is_whole)))
    (l_is_whole : K.lookup f_is_whole = some ⟨oc_is_whole, od_is_whole, .func (PySem.W.fnOf "is_whole" "is_whole" (defArgs s_is_whole) (defBody s_is_whole) (defScope s_is_whole) .none kV_is_whole dc_is_whole pm_is_whole an_is_whole cd_is_whole ct_is_whole), sl_is_whole⟩)
    (c_is_whole : PySem.W.codeIn K cd_is_whole "is_whole" = true) (k_is_whole : PySem.W.keepIn K (.ref f_is_whole) = true)
    (a_are_rounds : PySem.W.nsIn K mainGlobals "are_rounds" = some (some (.ref f_are_rounds)))
    (l_are_rounds : K.lookup f_are_rounds = some ⟨oc_are_rounds, od_are_rounds, .func (PySem.W.fnOf "are_rounds" "are_rounds" (defArgs s_are_rounds) (defBody s_are_rounds) (defScope s_are_rounds) .none kV_are_rounds dc_are_rounds pm_are_rounds an_are_rounds cd_are_rounds ct_are_rounds), sl_are_rounds⟩)
    (c_are_rounds : PySem.W.codeIn K cd_are_rounds "are_rounds" = true) (k_are_rounds : PySem.W.keepIn K (.ref f_are_rounds) = true)
    (a_Rounds_init : PySem.W.findIn K (.ref C_Rounds) "__init__" = some (some (.ref f_Rounds_init)))
    (l_Rounds_init : K.lookup f_Rounds_init = some ⟨oc_Rounds_init, od_Rounds_init, .func (PySem.W.fnOf "__init__" "Rounds.__init__" (defArgs s_Rounds_init) (defBody s_Rounds_init) (defScope s_Rounds_init) .none kV_Rounds_init dc_Rounds_init pm_Rounds_init an_Rounds_init cd_Rounds_init ct_Rounds_init), sl_Rounds_init⟩)
    (c_Rounds_init : PySem.W.codeIn K cd_Rounds_init "Rounds.__init__" = true) (k_Rounds_init : PySem.W.keepIn K (.ref f_Rounds_init) = true)
    (i_Rounds_init : PySem.W.isFn K (.ref f_Rounds_init) = true)
    (a_plainest : PySem.W.nsIn K mainGlobals "plainest" = some (some (.ref f_plainest)))
    (l_plainest : K.lookup f_plainest = some ⟨oc_plainest, od_plainest, .func (PySem.W.fnOf "plainest" "plainest" (defArgs s_plainest) (defBody s_plainest) (defScope s_plainest) .none kV_plainest dc_plainest pm_plainest an_plainest cd_plainest ct_plainest), sl_plainest⟩)
    (c_plainest : PySem.W.codeIn K cd_plainest "plainest" = true) (k_plainest : PySem.W.keepIn K (.ref f_plainest) = true)
    (a_q_whole : PySem.W.nsIn K mainGlobals "_law_whole" = some (some (.ref f_q_whole)))
    (l_q_whole : K.lookup f_q_whole = some ⟨oc_q_whole, od_q_whole, .func (PySem.W.fnOf "_law_whole" "_law_whole" (defArgs s_q_whole) (defBody s_q_whole) (defScope s_q_whole) .none kV_q_whole dc_q_whole pm_q_whole an_q_whole cd_q_whole ct_q_whole), sl_q_whole⟩)
    (c_q_whole : PySem.W.codeIn K cd_q_whole "_law_whole" = true) (k_q_whole : PySem.W.keepIn K (.ref f_q_whole) = true)
    (a_q_elements : PySem.W.nsIn K mainGlobals "_law_elements" = some (some (.ref f_q_elements)))
    (l_q_elements : K.lookup f_q_elements = some ⟨oc_q_elements, od_q_elements, .func (PySem.W.fnOf "_law_elements" "_law_elements" (defArgs s_q_elements) (defBody s_q_elements) (defScope s_q_elements) .none kV_q_elements dc_q_elements pm_q_elements an_q_elements cd_q_elements ct_q_elements), sl_q_elements⟩)
    (c_q_elements : PySem.W.codeIn K cd_q_elements "_law_elements" = true) (k_q_elements : PySem.W.keepIn K (.ref f_q_elements) = true)
    (a_q_plus : PySem.W.nsIn K mainGlobals "_law_plus" = some (some (.ref f_q_plus)))
    (l_q_plus : K.lookup f_q_plus = some ⟨oc_q_plus, od_q_plus, .func (PySem.W.fnOf "_law_plus" "_law_plus" (defArgs s_q_plus) (defBody s_q_plus) (defScope s_q_plus) .none kV_q_plus dc_q_plus pm_q_plus an_q_plus cd_q_plus ct_q_plus), sl_q_plus⟩)
    (c_q_plus : PySem.W.codeIn K cd_q_plus "_law_plus" = true) (k_q_plus : PySem.W.keepIn K (.ref f_q_plus) = true)
    (a_q_leads : PySem.W.nsIn K mainGlobals "_law_leads" = some (some (.ref f_q_leads)))
    (l_q_leads : K.lookup f_q_leads = some ⟨oc_q_leads, od_q_leads, .func (PySem.W.fnOf "_law_leads" "_law_leads" (defArgs s_q_leads) (defBody s_q_leads) (defScope s_q_leads) .none kV_q_leads dc_q_leads pm_q_leads an_q_leads cd_q_leads ct_q_leads), sl_q_leads⟩)
    (c_q_leads : PySem.W.codeIn K cd_q_leads "_law_leads" = true) (k_q_leads : PySem.W.keepIn K (.ref f_q_leads) = true)
    (a_law : PySem.W.nsIn K mainGlobals "law" = some (some (.ref f_law)))
    (l_law : K.lookup f_law = some ⟨oc_law, od_law, .func (PySem.W.fnOf "law" "law" (defArgs s_law) (defBody s_law) (defScope s_law) .none kV_law dc_law pm_law an_law cd_law ct_law), sl_law⟩)
    (c_law : PySem.W.codeIn K cd_law "law" = true) (k_law : PySem.W.keepIn K (.ref f_law) = true)
    (z_len : PySem.W.nsIn K mainGlobals "len" = some none)
    (z_range : PySem.W.nsIn K mainGlobals "range" = some none)
    (z_tuple : PySem.W.nsIn K mainGlobals "tuple" = some none)
    (z_sorted : PySem.W.nsIn K mainGlobals "sorted" = some none)
    (z_enumerate : PySem.W.nsIn K mainGlobals "enumerate" = some none)
    (xL_Uneven : K.lookup C_Uneven = some (excClassObj nm_Uneven q_Uneven C_Uneven NA_Uneven bs_Uneven bm_Uneven true sn_Uneven sub_Uneven ab_Uneven col_Uneven dd_Uneven k0_Uneven k1_Uneven k2_Uneven k3_Uneven k5_Uneven "ValueError.__new__")) (rv_Uneven : PySem.HandSPX.refsVE bm_Uneven = true) (ob_Uneven : oexB K C_Uneven = true) (tI_Uneven : PySem.W.typeIn K (.ref f_Uneven_init) = some (.type "function"))
    (no_Uneven_two : PySem.W.findIn K (.ref C_Uneven) "two" = some none)
    (fl_rounds : flB K "rounds" [(0, C_Rounds)] = true)
    (fl_upper : flB K "upper" [] = true)
    (fl_table : flB K "table" [] = true)
    (z_zip : PySem.W.nsIn K mainGlobals "zip" = some none)
    (z_any : PySem.W.nsIn K mainGlobals "any" = some none)
    (z_isinstance : PySem.W.nsIn K mainGlobals "isinstance" = some none)
    (z_list : PySem.W.nsIn K mainGlobals "list" = some none)
    (z_MOST_ROUNDS : PySem.W.nsIn K mainGlobals "MOST_ROUNDS" = some (some (.int (7) t_MOST_ROUNDS)))
    (z_int : PySem.W.nsIn K mainGlobals "int" = some none)
    (z_bool : PySem.W.nsIn K mainGlobals "bool" = some none)
    (z_MOST_ELEMENTS : PySem.W.nsIn K mainGlobals "MOST_ELEMENTS" = some (some (.int (144) t_MOST_ELEMENTS)))
    (ob_NoRounds : e0B K C_NoRounds = true)
    (z_all : PySem.W.nsIn K mainGlobals "all" = some none)
    (z_dict : PySem.W.nsIn K mainGlobals "dict" = some none)
    (hIs : isTab K [(10, C_CarryError), (11, C_NoRounds), (12, C_NoElement), (25, C_Uneven), (0, C_Rounds)] [] = true)
    (mk_Rounds : PySem.W.makesIn K C_Rounds = true) (kc_Rounds : PySem.W.keepIn K (.ref C_Rounds) = true)
    (oB : ([C_Rounds] : List Addr).all (objB K) = true)
    : LawT P w K q 6 "_law_script" mg fa d_law := by
  have e := hfa.symm.trans (PySem.W.mg_of X G a_law)
  cases e
  letI tn : Tn := ⟨fun P => "", []⟩
  have m_CarryError : mg (cname 10) = some (.ref C_CarryError) := PySem.W.mg_of X G aC_CarryError
  have ca_CarryError : (⟨P, w, K, mg⟩ : GC).ca 10 = C_CarryError := ca_of (G := ⟨P, w, K, mg⟩) m_CarryError
  have m_NoRounds : mg (cname 11) = some (.ref C_NoRounds) := PySem.W.mg_of X G aC_NoRounds
  have ca_NoRounds : (⟨P, w, K, mg⟩ : GC).ca 11 = C_NoRounds := ca_of (G := ⟨P, w, K, mg⟩) m_NoRounds
  have m_NoElement : mg (cname 12) = some (.ref C_NoElement) := PySem.W.mg_of X G aC_NoElement
  have ca_NoElement : (⟨P, w, K, mg⟩ : GC).ca 12 = C_NoElement := ca_of (G := ⟨P, w, K, mg⟩) m_NoElement
  have m_Uneven : mg (cname 25) = some (.ref C_Uneven) := PySem.W.mg_of X G aC_Uneven
  have ca_Uneven : (⟨P, w, K, mg⟩ : GC).ca 25 = C_Uneven := ca_of (G := ⟨P, w, K, mg⟩) m_Uneven
  have m_Group : mg (cname 5) = some (.ref C_Group) := PySem.W.mg_of X G aC_Group
  have ca_Group : (⟨P, w, K, mg⟩ : GC).ca 5 = C_Group := ca_of (G := ⟨P, w, K, mg⟩) m_Group
  have m_Rounds : mg (cname 0) = some (.ref C_Rounds) := PySem.W.mg_of X G aC_Rounds
  have ca_Rounds : (⟨P, w, K, mg⟩ : GC).ca 0 = C_Rounds := ca_of (G := ⟨P, w, K, mg⟩) m_Rounds
  have F_q_cell := fun_mk (st := s_q_cell) l_q_cell c_q_cell k_q_cell
  have B_q_cell := F_q_cell.binds (ps := ["_law_script", "_law_k"]) fun _ _ _ _ _ _ us hl => match us, hl with | [_, _], _ => rfl
  have F_q_rounds := fun_mk (st := s_q_rounds) l_q_rounds c_q_rounds k_q_rounds
  have B_q_rounds := F_q_rounds.binds (ps := ["_law_script"]) fun _ _ _ _ _ _ us hl => match us, hl with | [_], _ => rfl
  have F_q_powers := fun_mk (st := s_q_powers) l_q_powers c_q_powers k_q_powers
  have B_q_powers := F_q_powers.binds (ps := ["_law_number"]) fun _ _ _ _ _ _ us hl => match us, hl with | [_], _ => rfl
  have F_q_due := fun_mk (st := s_q_due) l_q_due c_q_due k_q_due
  have B_q_due := F_q_due.binds (ps := ["_law_rounds_here"]) fun _ _ _ _ _ _ us hl => match us, hl with | [_], _ => rfl
  have F_Rounds_is_even := fun_mk (st := s_Rounds_is_even) l_Rounds_is_even c_Rounds_is_even k_Rounds_is_even
  have B_Rounds_is_even := F_Rounds_is_even.binds (ps := ["self"]) fun _ _ _ _ _ _ us hl => match us, hl with | [_], _ => rfl
  have F_Uneven_init := fun_mk (st := s_Uneven_init) l_Uneven_init c_Uneven_init k_Uneven_init
  have B_Uneven_init := F_Uneven_init.binds (ps := ["self", "two"]) fun _ _ _ _ _ _ us hl => match us, hl with | [_, _], _ => rfl
  have F_Rounds_members := fun_mk (st := s_Rounds_members) l_Rounds_members c_Rounds_members k_Rounds_members
  have B_Rounds_members := F_Rounds_members.binds (ps := ["self"]) fun _ _ _ _ _ _ us hl => match us, hl with | [_], _ => rfl
  have F_break_of_two := fun_mk (st := s_break_of_two) l_break_of_two c_break_of_two k_break_of_two
  have B_break_of_two := F_break_of_two.binds (ps := ["table"]) fun _ _ _ _ _ _ us hl => match us, hl with | [_], _ => rfl
  have F_Rounds_nought := fun_mk (st := s_Rounds_nought) l_Rounds_nought c_Rounds_nought k_Rounds_nought
  have B_Rounds_nought := F_Rounds_nought.binds (ps := ["self"]) fun _ _ _ _ _ _ us hl => match us, hl with | [_], _ => rfl
  have F_Rounds_put := fun_mk (st := s_Rounds_put) l_Rounds_put c_Rounds_put k_Rounds_put
  have B_Rounds_put := F_Rounds_put.binds (ps := ["self", "x", "y"]) fun _ _ _ _ _ _ us hl => match us, hl with | [_, _, _], _ => rfl
  have F_times_of := fun_mk (st := s_times_of) l_times_of c_times_of k_times_of
  have B_times_of := F_times_of.binds (ps := ["group", "x"]) fun _ _ _ _ _ _ us hl => match us, hl with | [_, _], _ => rfl
  have F_widened := fun_mk (st := s_widened) l_widened c_widened k_widened
  have B_widened := F_widened.binds (ps := ["group", "come", "some"]) fun _ _ _ _ _ _ us hl => match us, hl with | [_, _, _], _ => rfl
  have F_parts_of := fun_mk (st := s_parts_of) l_parts_of c_parts_of k_parts_of
  have B_parts_of := F_parts_of.binds (ps := ["group"]) fun _ _ _ _ _ _ us hl => match us, hl with | [_], _ => rfl
  have F_is_whole := fun_mk (st := s_is_whole) l_is_whole c_is_whole k_is_whole
  have B_is_whole := F_is_whole.binds (ps := ["thing"]) fun _ _ _ _ _ _ us hl => match us, hl with | [_], _ => rfl
  have F_are_rounds := fun_mk (st := s_are_rounds) l_are_rounds c_are_rounds k_are_rounds
  have B_are_rounds := F_are_rounds.binds (ps := ["thing"]) fun _ _ _ _ _ _ us hl => match us, hl with | [_], _ => rfl
  have F_Rounds_init := fun_mk (st := s_Rounds_init) l_Rounds_init c_Rounds_init k_Rounds_init
  have B_Rounds_init := F_Rounds_init.binds (ps := ["self", "rounds"]) fun _ _ _ _ _ _ us hl => match us, hl with | [_, _], _ => rfl
  have F_plainest := fun_mk (st := s_plainest) l_plainest c_plainest k_plainest
  have B_plainest := F_plainest.binds (ps := ["group"]) fun _ _ _ _ _ _ us hl => match us, hl with | [_], _ => rfl
  have F_q_whole := fun_mk (st := s_q_whole) l_q_whole c_q_whole k_q_whole
  have B_q_whole := F_q_whole.binds (ps := ["_law_found"]) fun _ _ _ _ _ _ us hl => match us, hl with | [_], _ => rfl
  have F_q_elements := fun_mk (st := s_q_elements) l_q_elements c_q_elements k_q_elements
  have B_q_elements := F_q_elements.binds (ps := ["_law_rounds_here"]) fun _ _ _ _ _ _ us hl => match us, hl with | [_], _ => rfl
  have F_q_plus := fun_mk (st := s_q_plus) l_q_plus c_q_plus k_q_plus
  have B_q_plus := F_q_plus.binds (ps := ["_law_rounds_here", "_law_x", "_law_y"]) fun _ _ _ _ _ _ us hl => match us, hl with | [_, _, _], _ => rfl
  have F_q_leads := fun_mk (st := s_q_leads) l_q_leads c_q_leads k_q_leads
  have B_q_leads := F_q_leads.binds (ps := ["_law_rounds_here", "_law_found", "_law_script"]) fun _ _ _ _ _ _ us hl => match us, hl with | [_, _, _], _ => rfl
  have F_law := fun_mk (st := s_law) l_law c_law k_law
  refine ⟨tn, PySem.W.fnOf "law" "law" (defArgs s_law) (defBody s_law) (defScope s_law) .none kV_law dc_law pm_law an_law cd_law ct_law, [], rfl, ?_, fun s u => .of_eq rfl, fun base _ _ hTB => ?_⟩
  · intro t ht
    cases ht
  have hca : ∀ p ∈ ([(10, C_CarryError), (11, C_NoRounds), (12, C_NoElement), (25, C_Uneven), (5, C_Group), (0, C_Rounds)] : List (Nat × Addr)), (⟨P, w, K, mg⟩ : GC).ca p.1 = p.2 := by
    intro p hp
    simp only [List.mem_cons, List.not_mem_nil, or_false] at hp
    rcases hp with rfl | rfl | rfl | rfl | rfl | rfl
    · exact ca_CarryError
    · exact ca_NoRounds
    · exact ca_NoElement
    · exact ca_Uneven
    · exact ca_Group
    · exact ca_Rounds
  have O_Uneven : OexC K C_Uneven := oexC_by xL_Uneven rv_Uneven ob_Uneven
  have X_Uneven : ExMA P w K mg base C_Uneven 25 := ⟨m_Uneven, O_Uneven, f_Uneven_init, _, _, exc1_ok (pn := "two") (fn := "two") F_Uneven_init ⟨rfl, rfl, rfl, by decide +kernel, rfl, by decide +kernel, by decide +kernel⟩ O_Uneven no_Uneven_two (fun X hN hs => pss_one (ps_ost (pe_var (i := 0) (by rw [hN]; rfl) (by rw [hs]; exact Or.inl rfl)) (pe_var (i := 1) (by rw [hN]; rfl) (by rw [hs]; exact Or.inl rfl)))), a_Uneven_init, tI_Uneven, B_Uneven_init⟩
  have T : Txt P w K mg base := {
      zz := trivial,
      n_len := PySem.W.mg_none_of X G z_len,
      n_range := PySem.W.mg_none_of X G z_range,
      n_tuple := PySem.W.mg_none_of X G z_tuple,
      n_sorted := PySem.W.mg_none_of X G z_sorted,
      n_enumerate := PySem.W.mg_none_of X G z_enumerate,
      c_Uneven := cg_by m_Uneven,
      e_Uneven := by rw [ca_Uneven]; exact X_Uneven,
      f_rounds := fldM_by (fun p hp => hca p (by simp only [List.mem_cons, List.not_mem_nil, or_false] at hp ⊢; rcases hp with rfl <;> simp)) fl_rounds,
      f_upper := fldM_by (fun p hp => by cases hp) fl_upper,
      f_table := fldM_by (fun p hp => by cases hp) fl_table,
      n_zip := PySem.W.mg_none_of X G z_zip,
      n_any := PySem.W.mg_none_of X G z_any,
      c_Rounds := cg_by m_Rounds,
      n_isinstance := PySem.W.mg_none_of X G z_isinstance,
      n_list := PySem.W.mg_none_of X G z_list,
      g_MOST_ROUNDS := ⟨_, PySem.W.mg_of X G z_MOST_ROUNDS⟩,
      n_int := PySem.W.mg_none_of X G z_int,
      n_bool := PySem.W.mg_none_of X G z_bool,
      g_MOST_ELEMENTS := ⟨_, PySem.W.mg_of X G z_MOST_ELEMENTS⟩,
      c_NoRounds := cg_by m_NoRounds,
      e_NoRounds := by rw [ca_NoRounds]; exact exM0_by m_NoRounds ob_NoRounds,
      cl_Rounds_rounds := clM_by (fun p hp => hca p (by simp only [List.mem_cons, List.not_mem_nil, or_false] at hp ⊢; rcases hp with rfl <;> simp)) fl_rounds (by simp),
      n_all := PySem.W.mg_none_of X G z_all,
      n_dict := PySem.W.mg_none_of X G z_dict,
      isM := isM_of (fun p hp => hca p (by simp only [List.mem_cons, List.not_mem_nil, or_false] at hp ⊢; rcases hp with rfl | rfl | rfl | rfl | rfl <;> simp)) (fun p hp => by cases hp) hIs }
  have G_q_cell : FnOk P w K mg base (L2.CX P w) 1 f_q_cell _ ["_law_script", "_law_k"] (spM ⟨P, w, K, mg⟩ .S d_q_cell) := fn_ok F_q_cell sc_q_cell (fun cdv A outer s H E hr => b_q_cell T cdv A outer s H E hr)
  have M_q_cell : FnM P w K mg base 1 "_law_cell" .S d_q_cell := ⟨f_q_cell, _, _, G_q_cell, PySem.W.mg_of X G a_q_cell, k_q_cell, B_q_cell⟩
  have G_q_rounds : FnOk P w K mg base (L2.CX P w) 2 f_q_rounds _ ["_law_script"] (spM ⟨P, w, K, mg⟩ .S d_q_rounds) := fn_ok F_q_rounds sc_q_rounds (fun cdv A outer s H E hr => b_q_rounds T M_q_cell cdv A outer s H E hr)
  have M_q_rounds : FnM P w K mg base 2 "_law_rounds" .S d_q_rounds := ⟨f_q_rounds, _, _, G_q_rounds, PySem.W.mg_of X G a_q_rounds, k_q_rounds, B_q_rounds⟩
  have G_q_powers : FnOk P w K mg base (L2.CX P w) 1 f_q_powers _ ["_law_number"] (spM ⟨P, w, K, mg⟩ .S d_q_powers) := fn_ok F_q_powers sc_q_powers (fun cdv A outer s H E hr => b_q_powers T cdv A outer s H E hr)
  have M_q_powers : FnM P w K mg base 1 "_law_powers" .S d_q_powers := ⟨f_q_powers, _, _, G_q_powers, PySem.W.mg_of X G a_q_powers, k_q_powers, B_q_powers⟩
  have G_q_due : FnOk P w K mg base (L2.CX P w) 2 f_q_due _ ["_law_rounds_here"] (spM ⟨P, w, K, mg⟩ .S d_q_due) := fn_ok F_q_due sc_q_due (fun cdv A outer s H E hr => b_q_due T M_q_powers cdv A outer s H E hr)
  have M_q_due : FnM P w K mg base 2 "_law_due" .S d_q_due := ⟨f_q_due, _, _, G_q_due, PySem.W.mg_of X G a_q_due, k_q_due, B_q_due⟩
  have G_Rounds_is_even : FnOk P w K mg base (L2.CX P w) 1 f_Rounds_is_even _ ["self"] (spM ⟨P, w, K, mg⟩ .S d_Rounds_is_even) := fn_ok F_Rounds_is_even sc_Rounds_is_even (fun cdv A outer s H E hr => b_Rounds_is_even T cdv A outer s H E hr)
  have MT_is_even : ∀ c g, mt_is_even c = some g → MtM P w K mg base 1 "is_even" c .S g := by
    intro c g h
    unfold mt_is_even at h
    split at h
    · rename_i hc; subst hc; cases h
      refine ⟨⟨f_Rounds_is_even, _, _, G_Rounds_is_even.mono (by decide), (by rw [ca_Rounds]; exact ⟨a_Rounds_is_even, i_Rounds_is_even, k_Rounds_is_even⟩), B_Rounds_is_even⟩, (by rw [ca_Rounds]; exact (objB_ok (List.all_eq_true.mp oB C_Rounds (by simp))).cl), by decide +kernel⟩
    · cases h
  have G_Rounds_members : FnOk P w K mg base (L2.CX P w) 1 f_Rounds_members _ ["self"] (spM ⟨P, w, K, mg⟩ .S d_Rounds_members) := fn_ok F_Rounds_members sc_Rounds_members (fun cdv A outer s H E hr => b_Rounds_members T cdv A outer s H E hr)
  have MT_members : ∀ c g, mt_members c = some g → MtM P w K mg base 1 "members" c .S g := by
    intro c g h
    unfold mt_members at h
    split at h
    · rename_i hc; subst hc; cases h
      refine ⟨⟨f_Rounds_members, _, _, G_Rounds_members.mono (by decide), (by rw [ca_Rounds]; exact ⟨a_Rounds_members, i_Rounds_members, k_Rounds_members⟩), B_Rounds_members⟩, (by rw [ca_Rounds]; exact (objB_ok (List.all_eq_true.mp oB C_Rounds (by simp))).cl), by decide +kernel⟩
    · cases h
  have G_break_of_two : FnOk P w K mg base (L2.CX P w) 2 f_break_of_two _ ["table"] (spM ⟨P, w, K, mg⟩ .S d_break_of_two) := fn_ok F_break_of_two sc_break_of_two (fun cdv A outer s H E hr => b_break_of_two T MT_members cdv A outer s H E hr)
  have M_break_of_two : FnM P w K mg base 2 "break_of_two" .S d_break_of_two := ⟨f_break_of_two, _, _, G_break_of_two, PySem.W.mg_of X G a_break_of_two, k_break_of_two, B_break_of_two⟩
  have G_Rounds_nought : FnOk P w K mg base (L2.CX P w) 1 f_Rounds_nought _ ["self"] (spM ⟨P, w, K, mg⟩ .S d_Rounds_nought) := fn_ok F_Rounds_nought sc_Rounds_nought (fun cdv A outer s H E hr => b_Rounds_nought T cdv A outer s H E hr)
  have MT_nought : ∀ c g, mt_nought c = some g → MtM P w K mg base 1 "nought" c .S g := by
    intro c g h
    unfold mt_nought at h
    split at h
    · rename_i hc; subst hc; cases h
      refine ⟨⟨f_Rounds_nought, _, _, G_Rounds_nought.mono (by decide), (by rw [ca_Rounds]; exact ⟨a_Rounds_nought, i_Rounds_nought, k_Rounds_nought⟩), B_Rounds_nought⟩, (by rw [ca_Rounds]; exact (objB_ok (List.all_eq_true.mp oB C_Rounds (by simp))).cl), by decide +kernel⟩
    · cases h
  have G_Rounds_put : FnOk P w K mg base (L2.CX P w) 1 f_Rounds_put _ ["self", "x", "y"] (spM ⟨P, w, K, mg⟩ .S d_Rounds_put) := fn_ok F_Rounds_put sc_Rounds_put (fun cdv A outer s H E hr => b_Rounds_put T cdv A outer s H E hr)
  have MT_put : ∀ c g, mt_put c = some g → MtM P w K mg base 1 "put" c .S g := by
    intro c g h
    unfold mt_put at h
    split at h
    · rename_i hc; subst hc; cases h
      refine ⟨⟨f_Rounds_put, _, _, G_Rounds_put.mono (by decide), (by rw [ca_Rounds]; exact ⟨a_Rounds_put, i_Rounds_put, k_Rounds_put⟩), B_Rounds_put⟩, (by rw [ca_Rounds]; exact (objB_ok (List.all_eq_true.mp oB C_Rounds (by simp))).cl), by decide +kernel⟩
    · cases h
  have G_times_of : FnOk P w K mg base (L2.CX P w) 2 f_times_of _ ["group", "x"] (spM ⟨P, w, K, mg⟩ .S d_times_of) := fn_ok F_times_of sc_times_of (fun cdv A outer s H E hr => b_times_of T MT_nought MT_put cdv A outer s H E hr)
  have M_times_of : FnM P w K mg base 2 "times_of" .S d_times_of := ⟨f_times_of, _, _, G_times_of, PySem.W.mg_of X G a_times_of, k_times_of, B_times_of⟩
  have G_widened : FnOk P w K mg base (L2.CX P w) 2 f_widened _ ["group", "come", "some"] (spM ⟨P, w, K, mg⟩ .S d_widened) := fn_ok F_widened sc_widened (fun cdv A outer s H E hr => b_widened T MT_put cdv A outer s H E hr)
  have M_widened : FnM P w K mg base 2 "widened" .S d_widened := ⟨f_widened, _, _, G_widened, PySem.W.mg_of X G a_widened, k_widened, B_widened⟩
  have G_parts_of : FnOk P w K mg base (L2.CX P w) 3 f_parts_of _ ["group"] (spM ⟨P, w, K, mg⟩ (.O .flat) d_parts_of) := fn_okO F_parts_of sc_parts_of (fun cdv A outer s H E hr => b_parts_of T MT_nought MT_members M_times_of M_widened cdv A outer s H E hr)
  have M_parts_of : FnM P w K mg base 3 "parts_of" (.O .flat) d_parts_of := ⟨f_parts_of, _, _, G_parts_of, PySem.W.mg_of X G a_parts_of, k_parts_of, B_parts_of⟩
  have G_is_whole : FnOk P w K mg base (L2.CX P w) 1 f_is_whole _ ["thing"] (spM ⟨P, w, K, mg⟩ .S d_is_whole) := fn_ok F_is_whole sc_is_whole (fun cdv A outer s H E hr => b_is_whole T cdv A outer s H E hr)
  have M_is_whole : FnM P w K mg base 1 "is_whole" .S d_is_whole := ⟨f_is_whole, _, _, G_is_whole, PySem.W.mg_of X G a_is_whole, k_is_whole, B_is_whole⟩
  have G_are_rounds : FnOk P w K mg base (L2.CX P w) 2 f_are_rounds _ ["thing"] (spM ⟨P, w, K, mg⟩ .S d_are_rounds) := fn_ok F_are_rounds sc_are_rounds (fun cdv A outer s H E hr => b_are_rounds T M_is_whole cdv A outer s H E hr)
  have M_are_rounds : FnM P w K mg base 2 "are_rounds" .S d_are_rounds := ⟨f_are_rounds, _, _, G_are_rounds, PySem.W.mg_of X G a_are_rounds, k_are_rounds, B_are_rounds⟩
  have G_Rounds_init := fn_okI (P := P) (w := w) (mg := mg) (base := base) (c := 0) (g := e_Rounds_init) F_Rounds_init sc_Rounds_init (by decide) (fun cdv A outer s H E x hr => b_Rounds_init T M_are_rounds cdv A outer s H E x hr)
  have MK_Rounds : MkM P w K mg base 3 0 d_Rounds_init := ⟨f_Rounds_init, _, _, G_Rounds_init, (by rw [ca_Rounds]; exact ⟨mk_Rounds, a_Rounds_init, i_Rounds_init, kc_Rounds⟩), cg_by m_Rounds, B_Rounds_init⟩
  have G_plainest : FnOk P w K mg base (L2.CX P w) 5 f_plainest _ ["group"] (spM ⟨P, w, K, mg⟩ (.O (.parts [.sh, .flat, .flat])) d_plainest) := fn_okO F_plainest sc_plainest (fun cdv A outer s H E hr => b_plainest T MT_is_even M_break_of_two M_parts_of MT_members MK_Rounds MT_nought MT_put cdv A outer s H E hr)
  have M_plainest : FnM P w K mg base 5 "plainest" (.O (.parts [.sh, .flat, .flat])) d_plainest := ⟨f_plainest, _, _, G_plainest, PySem.W.mg_of X G a_plainest, k_plainest, B_plainest⟩
  have G_q_whole : FnOk P w K mg base (L2.CX P w) 1 f_q_whole _ ["_law_found"] (spM ⟨P, w, K, mg⟩ .S d_q_whole) := fn_ok F_q_whole sc_q_whole (fun cdv A outer s H E hr => b_q_whole T cdv A outer s H E hr)
  have M_q_whole : FnM P w K mg base 1 "_law_whole" .S d_q_whole := ⟨f_q_whole, _, _, G_q_whole, PySem.W.mg_of X G a_q_whole, k_q_whole, B_q_whole⟩
  have G_q_elements : FnOk P w K mg base (L2.CX P w) 1 f_q_elements _ ["_law_rounds_here"] (spM ⟨P, w, K, mg⟩ .S d_q_elements) := fn_ok F_q_elements sc_q_elements (fun cdv A outer s H E hr => b_q_elements T cdv A outer s H E hr)
  have M_q_elements : FnM P w K mg base 1 "_law_elements" .S d_q_elements := ⟨f_q_elements, _, _, G_q_elements, PySem.W.mg_of X G a_q_elements, k_q_elements, B_q_elements⟩
  have G_q_plus : FnOk P w K mg base (L2.CX P w) 1 f_q_plus _ ["_law_rounds_here", "_law_x", "_law_y"] (spM ⟨P, w, K, mg⟩ .S d_q_plus) := fn_ok F_q_plus sc_q_plus (fun cdv A outer s H E hr => b_q_plus T cdv A outer s H E hr)
  have M_q_plus : FnM P w K mg base 1 "_law_plus" .S d_q_plus := ⟨f_q_plus, _, _, G_q_plus, PySem.W.mg_of X G a_q_plus, k_q_plus, B_q_plus⟩
  have G_q_leads : FnOk P w K mg base (L2.CX P w) 2 f_q_leads _ ["_law_rounds_here", "_law_found", "_law_script"] (spM ⟨P, w, K, mg⟩ .S d_q_leads) := fn_ok F_q_leads sc_q_leads (fun cdv A outer s H E hr => b_q_leads T M_q_elements M_q_cell M_q_plus cdv A outer s H E hr)
  have M_q_leads : FnM P w K mg base 2 "_law_leads" .S d_q_leads := ⟨f_q_leads, _, _, G_q_leads, PySem.W.mg_of X G a_q_leads, k_q_leads, B_q_leads⟩
  have G_law : FnOk P w K mg base (L2.CX P w) 6 fa _ ["_law_script"] (spM ⟨P, w, K, mg⟩ .S d_law) := fn_ok F_law sc_law (fun cdv A outer s H E hr => b_law T M_q_rounds M_q_due M_plainest MK_Rounds M_q_whole M_q_leads cdv A outer s H E hr)
  exact G_law
instance tnD : Tn := ⟨fun _ => "", []⟩
end Mir.K21
namespace Mir.K21
open PySem PySem.Spec PyProof.Rows L2
set_option maxHeartbeats 1000000
theorem is_whole_int (i : Int) : d_is_whole [.int i] = .ok (.bl true) := by kernel_rfl
theorem put_ok {rs x y : List Int} (h : OkR rs) (h1 : x.length = rs.length) (h2 : y.length = rs.length) : d_Rounds_put [gR rs, tuI x, tuI y] = .ok (tuI (putV rs x y)) := by
  refine runD_rt rfl ?_
  have st : startD N_Rounds_put.length [gR rs, tuI x, tuI y] = [.sh (gR rs), .sh (tuI x), .sh (tuI y), .un, .un, .un] := rfl
  rw [st]
  have z : zip3D [tuI x, tuI y, tuI rs] = .ok (zipL3 (x.map .int) (y.map .int) (rs.map .int)) := rfl
  have c : Rounds_put_c1 [.sh (gR rs), .sh (tuI x), .sh (tuI y), .un, .un, .un] (zipL3 (x.map .int) (y.map .int) (rs.map .int)) = .ok ((putV rs x y).map .int) := by
    unfold Rounds_put_c1
    have e : zipL3 (x.map D.int) (y.map D.int) (rs.map D.int) = (x.zip (y.zip rs)).map fun p => .tup [.int p.1, .int p.2.1, .int p.2.2] := by
      unfold zipL3
      rw [List.zip_map, List.zip_map, List.map_map]
      rfl
    rw [e]
    have m : ∀ p ∈ x.zip (y.zip rs), 0 < p.2.2 := fun p hp => by
      have q := (List.of_mem_zip (List.of_mem_zip hp).2).2
      have q2 : (2 : Int) ≤ p.2.2 := h.two _ q
      omega
    rw [lcD_map (fun d => match d with | .tup [.int a, .int b, .int n] => .int ((a + b) % n) | _ => .non) (fun d hd => by
      obtain ⟨p, hp, rfl⟩ := List.mem_map.mp hd
      refine ⟨_, rfl, rfl, ?_⟩
      simp [wipeR, modD_ok (m p hp)])]
    rw [List.map_map]
    unfold putV
    rw [List.map_map]
    rfl
  have l7 := h.len
  have hl : (putV rs x y).length ≤ lim := by rw [putV_len h1 h2]; unfold lim; omega
  unfold e_Rounds_put
  simp [fld_rounds, z, c, hl]
theorem nought_ok {rs : List Int} (h : OkR rs) : d_Rounds_nought [gR rs] = .ok (tuI (zeroV rs)) := by
  refine runD_rt rfl ?_
  have st : startD N_Rounds_nought.length [gR rs] = [.sh (gR rs), .un] := rfl
  rw [st]
  have c : Rounds_nought_c1 [.sh (gR rs), .un] (rs.map .int) = .ok ((zeroV rs).map .int) := by
    unfold Rounds_nought_c1
    rw [lcD_map (g := nameG 1) (t := fun _ => .ok true) (f := fun _ => .ok (.int 0)) (fun _ => .int 0) (fun d hd => ⟨_, rfl, rfl, rfl⟩), List.map_map]
    unfold zeroV
    rw [List.map_map]
    rfl
  have l7 := h.len
  have hl : (zeroV rs).length ≤ lim := by unfold zeroV lim; simp; omega
  unfold e_Rounds_nought
  simp [fld_rounds, c, hl]
theorem rounds_turn (src : D) (m n : Int) (h2 : 2 ≤ n) (h144 : n ≤ 144) (a : Slot) : are_rounds_l1 (.int n) [.sh src, .sh (.int m), a] = .nx [.sh src, .sh (.int (m * n)), .sh (.int n)] := by
  have z1 : ¬ n < 2 := by omega
  have z2 : ¬ 144 < n := by omega
  have z3 : mulD (.int m) (.int n) = .ok (.int (m * n)) := mulD_small (.inr ⟨by omega, by omega⟩)
  simp [are_rounds_l1, is_whole_int, z1, z2, z3]
theorem rounds_ok {rs : List Int} (h : OkG rs) (src : D) (hs : src = tuI rs ∨ src = liI rs) : d_are_rounds [src] = .ok (.bl true) := by
  refine runD_rt rfl ?_
  have st : startD N_are_rounds.length [src] = [.sh src, .un, .un] := rfl
  rw [st]
  have hi := is_seq src rs hs isC isU
  have hl : lenD src = .ok (.int rs.length) := by rcases hs with rfl | rfl <;> simp
  have it : itemsD src = .ok (rs.map .int) := by rcases hs with rfl | rfl <;> rfl
  have l7 := h.ok.len
  obtain ⟨r', loop, a, rfl⟩ := forD_ix (f := are_rounds_l1) (ds := rs.map .int) (fun i r => ∃ a, r = [.sh src, .sh (.int ((rs.take i).foldl (· * ·) 1)), a]) (fun i d hd r ⟨a, e⟩ => by
    rw [List.getElem?_map, Option.map_eq_some_iff] at hd
    obtain ⟨n, hn, rfl⟩ := hd
    subst e
    have hm := List.mem_of_getElem? hn
    refine ⟨_, rounds_turn src _ n (h.ok.two n hm) (h.most n hm) a, .sh (.int n), ?_⟩
    rw [take_more hn, List.foldl_append]
    rfl) (r := [.sh src, .sh (.int 1), .un]) ⟨.un, rfl⟩
  rw [List.length_map, List.take_length] at loop
  have z : ¬ (7 : Int) < rs.length := by omega
  unfold e_are_rounds
  simp [-itemsD, hi, hl, it, z, loop, h.prod, lim]
theorem init_ok {rs : List Int} (h : OkG rs) (src : D) (hs : src = tuI rs ∨ src = liI rs) : d_Rounds_init [src] = .ok (gR rs) := by
  have e1 : e_Rounds_init (startI N_Rounds_init.length 0 [src]) = .nx [.ow .flat (gR rs), .sh src] := by
    have st : startI N_Rounds_init.length 0 [src] = [.ow .flat (.obj 0 []), .sh src] := rfl
    rw [st]
    have tu : tupleD src = .ok (tuI rs) := by rcases hs with rfl | rfl <;> rfl
    unfold e_Rounds_init
    simp only [getS_succ, getS0, ok_bind, one, rounds_ok h src hs, asB_bl, lift_ok, Bool.not_true, Bool.false_eq_true, if_false, nx_seq, tu]
    rfl
  exact runI_nx rfl e1
theorem members_ok {rs : List Int} (h : OkR rs) (hb : ∀ n ∈ rs, n ≤ 144) (hp : rs.foldl (· * ·) 1 ≤ 144) : d_Rounds_members [gR rs] = .ok (.lst ((mems rs).map tuI)) := by
  have l7 := h.len
  -- one element made longer
  have c1 : ∀ (n : Int) (x : List Int) (s1 s2 s3 s4 : Slot), 2 ≤ n → n ≤ 144 → x.length < 1000 → Rounds_members_c1 [s1, s2, .sh (.int n), s3, .sh (tuI x), s4] (rangeL 0 n.toNat) = .ok (((List.range n.toNat).map fun i : Nat => x ++ [(i : Int)]).map tuI) := fun n x s1 s2 s3 s4 h2 h3 hx => by
    unfold Rounds_members_c1
    rw [List.map_map]
    refine lcD_range _ fun k hk => ⟨rfl, ?_⟩
    have hl : x.length + 1 ≤ lim := by unfold lim; omega
    have l1 : 1 ≤ lim := by decide
    simp [wipeR, hl, l1]
  have bound : ∀ (l : List Int) (S : List (List Int)), (∀ n ∈ l, 2 ≤ n) → S.length ≤ (l.foldl memsStep S).length := fun l => by
    induction l with
    | nil => intro S _; exact Nat.le_refl _
    | cons n l ih =>
      intro S hl
      have := ih (memsStep S n) fun m hm => hl m (List.mem_cons_of_mem _ hm)
      have hn := hl n List.mem_cons_self
      rw [step_len] at this
      have : S.length * 1 ≤ S.length * n.toNat := Nat.mul_le_mul_left _ (by omega)
      rw [List.foldl_cons]
      omega
  have tot : (mems rs).length ≤ 144 := by
    have := mems_len (rs := rs) fun n hn => by have := h.two n hn; omega
    omega
  obtain ⟨r', loop, s2, s3, s4, rfl⟩ := forD_row (pre0 := rs) (f := Rounds_members_l3) D.int (fun pre r => ∃ s2 s3 s4, r = [.sh (gR rs), .sh (.lst ((mems pre).map tuI)), s2, s3, s4, .un]) (ds := rs) (pre := []) (r := [.sh (gR rs), .sh (.lst [.tup []]), .un, .un, .un, .un]) (fun pre n hpre r ⟨s2, s3, s4, e⟩ => by
    subst e
    obtain ⟨post, hpost⟩ := hpre
    have hn : n ∈ rs := by rw [← hpost]; simp
    have n2 := h.two n hn
    have n3 := hb n hn
    have lenp : pre.length < 1000 := by
      have := congrArg List.length hpost
      simp at this
      omega
    have elen : ∀ x ∈ mems pre, x.length < 1000 := fun x hx => by
      have := (mem_mems.mp hx).len
      omega
    have small : (memsStep (mems pre) n).length ≤ 144 := by
      have e : mems rs = post.foldl memsStep (memsStep (mems pre) n) := by
        unfold mems
        rw [← hpost, List.foldl_append, List.foldl_append]
        rfl
      have := bound post (memsStep (mems pre) n) fun m hm => h.two m (by rw [← hpost]; simp [hm])
      rw [← e] at this
      omega
    have r1 : rng1 [.int n] = .ok (rangeL 0 n.toNat) := rng1_ok (by omega) (by omega)
    obtain ⟨r2, in2, t4, rfl⟩ := forD_row (pre0 := mems pre) (f := Rounds_members_l2) tuI (fun done r => ∃ t4, r = [.sh (gR rs), .sh (.lst ((mems pre).map tuI)), .sh (.int n), .ow .flat (.lst ((memsStep done n).map tuI)), t4, .un]) (ds := mems pre) (pre := []) (r := [.sh (gR rs), .sh (.lst ((mems pre).map tuI)), .sh (.int n), .ow .flat (.lst []), s4, .un]) (fun done x hd r ⟨t4, e⟩ => by
      subst e
      obtain ⟨rest, hr⟩ := hd
      have hx : x ∈ mems pre := by rw [← hr]; simp
      have eq : memsStep (done ++ [x]) n = memsStep done n ++ (List.range n.toNat).map fun i : Nat => x ++ [(i : Int)] := by
        unfold memsStep
        simp
      have le : (memsStep done n).length + ((List.range n.toNat).map fun i : Nat => x ++ [(i : Int)]).length ≤ lim := by
        rw [← List.length_append, ← eq, step_len]
        rw [step_len, ← hr] at small
        simp at small
        have : (done ++ [x]).length * n.toNat ≤ (done.length + (rest.length + 1)) * n.toNat := Nat.mul_le_mul_right _ (by simp)
        unfold lim
        omega
      have q := c1 n x (.sh (gR rs)) (.sh (.lst ((mems pre).map tuI))) (.ow .flat (.lst ((memsStep done n).map tuI))) .un n2 n3 (elen x hx)
      have l0 : ((List.range n.toNat).map fun i : Nat => x ++ [(i : Int)]).length ≤ lim := by omega
      generalize ((List.range n.toNat).map fun i : Nat => x ++ [(i : Int)]) = L at *
      refine ⟨_, ?_, .sh (tuI x), rfl⟩
      rw [eq]
      simp [Rounds_members_l2, extG, ownL, r1, q, le, l0]) rfl ⟨_, rfl⟩
    refine ⟨[.sh (gR rs), .sh (.lst ((mems (pre ++ [n])).map tuI)), .sh (.int n), .sh (.lst ((memsStep (mems pre) n).map tuI)), t4, .un], ?_, _, _, _, rfl⟩
    have eq : mems (pre ++ [n]) = memsStep (mems pre) n := by unfold mems; rw [List.foldl_append]; rfl
    simp only [List.nil_append] at in2
    rw [eq]
    simp [Rounds_members_l3, in2, freeze]) rfl ⟨_, _, _, rfl⟩
  simp only [List.nil_append] at loop
  refine runD_rt rfl ?_
  simp only [startD, N_Rounds_members, List.length_cons, List.length_nil, List.map_cons, List.map_nil, Nat.reduceAdd, Nat.reduceSub, Nat.zero_add, List.replicate, List.cons_append, List.nil_append]
  have l0 : 0 ≤ lim := by decide
  have l1 : 1 ≤ lim := by decide
  simp [e_Rounds_members, fld_rounds, loop, l0, l1]
theorem even_ok (rs : List Int) : d_Rounds_is_even [gR rs] = .ok (.bl true) := by kernel_rfl
/-- a finite group of any make, and how its elements lie -/
structure GrpG {α : Type} [DecidableEq α] (h : Nat) (V : α → D) (els : List α) (put : α → α → α) (back : α → α) (zero : α) : Prop where
  nd : els.Nodup
  len : els.length ≤ 144
  putE : ∀ a ∈ els, ∀ b ∈ els, put a b ∈ els
  backE : ∀ a ∈ els, back a ∈ els
  zeroE : zero ∈ els
  assoc : ∀ a ∈ els, ∀ b ∈ els, ∀ c ∈ els, put (put a b) c = put a (put b c)
  pz : ∀ a ∈ els, put a zero = a
  zp : ∀ a ∈ els, put zero a = a
  pb : ∀ a ∈ els, put a (back a) = zero
  bp : ∀ a ∈ els, put (back a) a = zero
  okV : ∀ n a, h ≤ n → okQ n (V a) = true
  eqq : ∀ a b, eqQ (V a) (V b) = decide (a = b)
/-- so many times -/
def powG {α : Type} (put : α → α → α) (zero : α) : Nat → α → α
  | 0, _ => zero
  | n + 1, x => put (powG put zero n x) x
section
variable {α : Type} [DecidableEq α] {h : Nat} {V : α → D} {els : List α} {put : α → α → α} {back : α → α} {zero : α}
theorem GrpG.okV64 (L : GrpG h V els put back zero) (h64 : h ≤ 64) (a : α) : okQ 64 (V a) = true := L.okV 64 a h64
theorem GrpG.neV (L : GrpG h V els put back zero) (h64 : h ≤ 64) (a b : α) : neD (V a) (V b) = .ok (.bl (!decide (a = b))) := by rw [neD_ok (L.okV64 h64 a) (L.okV64 h64 b), L.eqq]
theorem GrpG.cancel_r (L : GrpG h V els put back zero) {a b c : α} (ha : a ∈ els) (hb : b ∈ els) (hc : c ∈ els) (e : put b a = put c a) : b = c := by
  have q := congrArg (put · (back a)) e
  rwa [L.assoc _ hb _ ha _ (L.backE a ha), L.assoc _ hc _ ha _ (L.backE a ha), L.pb a ha, L.pz b hb, L.pz c hc] at q
theorem GrpG.back_of (L : GrpG h V els put back zero) {a b : α} (ha : a ∈ els) (hb : b ∈ els) (e : put b a = zero) : b = back a := L.cancel_r ha hb (L.backE a ha) (e.trans (L.bp a ha).symm)
theorem GrpG.back_zero (L : GrpG h V els put back zero) : back zero = zero := (L.back_of L.zeroE L.zeroE (L.pz _ L.zeroE)).symm
theorem GrpG.powE (L : GrpG h V els put back zero) {x : α} (hx : x ∈ els) : ∀ n, powG put zero n x ∈ els
  | 0 => L.zeroE
  | n + 1 => L.putE _ (GrpG.powE L hx n) _ hx
theorem GrpG.pow_one (L : GrpG h V els put back zero) {x : α} (hx : x ∈ els) : powG put zero 1 x = x := L.zp x hx
theorem GrpG.pow_add (L : GrpG h V els put back zero) {x : α} (hx : x ∈ els) (m : Nat) : ∀ n, powG put zero (m + n) x = put (powG put zero m x) (powG put zero n x)
  | 0 => (L.pz _ (L.powE hx m)).symm
  | n + 1 => by
    show put (powG put zero (m + n) x) x = put (powG put zero m x) (put (powG put zero n x) x)
    rw [GrpG.pow_add L hx m n, L.assoc _ (L.powE hx m) _ (L.powE hx n) _ hx]
theorem GrpG.pow_mul (L : GrpG h V els put back zero) {x : α} (hx : x ∈ els) (m : Nat) : ∀ n, powG put zero (m * n) x = powG put zero n (powG put zero m x)
  | 0 => rfl
  | n + 1 => by
    rw [Nat.mul_succ, L.pow_add hx, GrpG.pow_mul L hx m n]
    rfl
theorem GrpG.pow_zero (L : GrpG h V els put back zero) : ∀ n, powG put zero n zero = zero
  | 0 => rfl
  | n + 1 => by
    show put (powG put zero n zero) zero = zero
    rw [GrpG.pow_zero L n, L.pz _ L.zeroE]
/-- times and the element itself go by any order -/
theorem GrpG.pow_left (L : GrpG h V els put back zero) {x : α} (hx : x ∈ els) (n : Nat) : put x (powG put zero n x) = powG put zero (n + 1) x := by
  rw [Nat.add_comm, L.pow_add hx, L.pow_one hx]
theorem GrpG.pow_back (L : GrpG h V els put back zero) {x : α} (hx : x ∈ els) : ∀ n, powG put zero n (back x) = back (powG put zero n x)
  | 0 => L.back_zero.symm
  | n + 1 => by
    show put (powG put zero n (back x)) (back x) = _
    rw [GrpG.pow_back L hx n]
    have hp := L.powE hx n
    have hb := L.backE _ hp
    have hbx := L.backE _ hx
    refine L.back_of (L.powE hx (n + 1)) (L.putE _ hb _ hbx) ?_
    rw [← L.pow_left hx n, L.assoc _ hb _ hbx _ (L.putE _ hx _ hp), ← L.assoc _ hbx _ hx _ hp, L.bp x hx, L.zp _ hp, L.bp _ hp]
end
theorem nodup_le {α : Type} [DecidableEq α] : ∀ {xs ys : List α}, xs.Nodup → (∀ x ∈ xs, x ∈ ys) → xs.length ≤ ys.length
  | [], _, _, _ => Nat.zero_le _
  | x :: xs, ys, hn, hs => by
    rw [List.nodup_cons] at hn
    have hx := hs x List.mem_cons_self
    have := nodup_le (xs := xs) (ys := ys.erase x) hn.2 fun y hy => (List.mem_erase_of_ne (fun e => hn.1 (by rw [← e]; exact hy))).mpr (hs y (List.mem_cons_of_mem _ hy))
    rw [List.length_erase_of_mem hx] at this
    have p := List.length_pos_of_mem hx
    rw [List.length_cons]
    omega
/-- the least number from 1 on by which an element comes to the nought -/
structure OrdG {α : Type} (put : α → α → α) (zero : α) (x : α) (m : Nat) : Prop where
  one : 1 ≤ m
  z : powG put zero m x = zero
  le : ∀ j : Nat, 1 ≤ j → j < m → powG put zero j x ≠ zero
theorem least_nat {P : Nat → Prop} : ∀ n : Nat, 1 ≤ n → P n → ∃ m, 1 ≤ m ∧ m ≤ n ∧ P m ∧ ∀ j, 1 ≤ j → j < m → ¬ P j := fun n => by
  induction n using Nat.strongRecOn with
  | ind n ih =>
    intro h1 hp
    by_cases h : ∃ j, 1 ≤ j ∧ j < n ∧ P j
    · obtain ⟨j, j1, j2, j3⟩ := h
      obtain ⟨m, m1, m2, m3⟩ := ih j j2 j1 j3
      exact ⟨m, m1, by omega, m3⟩
    · exact ⟨n, h1, Nat.le_refl _, hp, fun j j1 j2 q => h ⟨j, j1, j2, q⟩⟩
section
variable {α : Type} [DecidableEq α] {h : Nat} {V : α → D} {els : List α} {put : α → α → α} {back : α → α} {zero : α}
theorem GrpG.pow_sub (L : GrpG h V els put back zero) {x : α} (hx : x ∈ els) {i j : Nat} (hij : i ≤ j) (e : powG put zero i x = powG put zero j x) : powG put zero (j - i) x = zero := by
  have q : powG put zero j x = put (powG put zero (j - i) x) (powG put zero i x) := by rw [← L.pow_add hx]; congr 1; omega
  rw [q] at e
  exact (L.cancel_r (L.powE hx i) L.zeroE (L.powE hx (j - i)) ((L.zp _ (L.powE hx i)).trans e)).symm
theorem GrpG.ord_ex (L : GrpG h V els put back zero) {x : α} (hx : x ∈ els) : ∃ m, m ≤ els.length ∧ OrdG put zero x m := by
  have : ∃ i j, i < j ∧ j ≤ els.length ∧ powG put zero i x = powG put zero j x := by
    refine Classical.byContradiction fun hn => ?_
    have nd : ((List.range (els.length + 1)).map fun i => powG put zero i x).Nodup := by
      rw [List.nodup_iff_pairwise_ne, List.pairwise_map]
      refine List.Pairwise.imp_of_mem (R := (· < ·)) (fun ha hb hlt e => hn ⟨_, _, hlt, ?_, e⟩) (List.pairwise_lt_range)
      have := List.mem_range.mp hb
      omega
    have := nodup_le nd fun y hy => by
      obtain ⟨i, _, rfl⟩ := List.mem_map.mp hy
      exact L.powE hx i
    simp at this
    omega
  obtain ⟨i, j, h1, h2, e⟩ := this
  obtain ⟨m, m1, m2, m3, m4⟩ := least_nat (P := fun n => powG put zero n x = zero) (j - i) (by omega) (L.pow_sub hx (by omega) e)
  exact ⟨m, by omega, m1, m3, m4⟩
theorem OrdG.uniq {x : α} {m n : Nat} (a : OrdG put zero x m) (b : OrdG put zero x n) : m = n := by
  by_cases h : m < n
  · exact absurd a.z (b.le m a.one h)
  · by_cases h2 : n < m
    · exact absurd b.z (a.le n b.one h2)
    · omega
theorem GrpG.pow_mod (L : GrpG h V els put back zero) {x : α} (hx : x ∈ els) {m : Nat} (o : OrdG put zero x m) (n : Nat) : powG put zero n x = powG put zero (n % m) x := by
  have e : n = m * (n / m) + n % m := (Nat.div_add_mod n m).symm
  conv => lhs; rw [e]
  rw [L.pow_add hx, L.pow_mul hx, o.z, L.pow_zero, L.zp _ (L.powE hx _)]
end
theorem emod_w (x m : Int) : ∃ q, x % m = x + m * q := ⟨-(x / m), by rw [Int.emod_def, Int.mul_neg]; omega⟩
theorem emod_of {a b m : Int} (q : Int) (h : a = b + m * q) : a % m = b % m := by rw [h, Int.add_mul_emod_self_left]
theorem put_backV {rs x : List Int} (h : OkR rs) (hl : x.length = rs.length) : putV rs x (backV rs x) = zeroV rs := by
  refine ext_getD (by rw [putV_len hl (backV_len hl)]; unfold zeroV; simp) fun i hi => ?_
  have hi : i < rs.length := by unfold zeroV at hi; simpa using hi
  rw [putV_at hi hl (backV_len hl), backV_at hi hl, zeroV_at]
  have := h.get hi
  obtain ⟨q1, h1⟩ := emod_w (0 - x.getD i 0) (rs.getD i 0)
  rw [h1, emod_of (b := 0) q1 (by omega), Int.zero_emod]
theorem eqQ_tuG (a b : List Int) : eqQ (tuI a) (tuI b) = decide (a = b) := by rw [eqQ, eqQs_ints]
theorem grpR {lo : List Int} (g : OkG lo) : GrpG 1 tuI (mems lo) (putV lo) (backV lo) (zeroV lo) where
  nd := mems_nodup lo
  len := by
    have := mems_len (rs := lo) fun n hn => by have := g.ok.two n hn; omega
    have := g.prod
    omega
  putE := fun a ha b hb => mem_mems.mpr (put_el g.ok (mem_mems.mp ha).len (mem_mems.mp hb).len)
  backE := fun a ha => mem_mems.mpr (back_el g.ok (mem_mems.mp ha).len)
  zeroE := mem_mems.mpr (zero_el g.ok)
  assoc := fun a ha b hb c hc => putV_assoc (mem_mems.mp ha).len (mem_mems.mp hb).len (mem_mems.mp hc).len
  pz := fun a ha => put_zero (mem_mems.mp ha)
  zp := fun a ha => by rw [putV_comm (zero_el g.ok).len (mem_mems.mp ha).len]; exact put_zero (mem_mems.mp ha)
  pb := fun a ha => put_backV g.ok (mem_mems.mp ha).len
  bp := fun a ha => by rw [putV_comm (back_el g.ok (mem_mems.mp ha).len).len (mem_mems.mp ha).len]; exact put_backV g.ok (mem_mems.mp ha).len
  okV := fun n a hn => by
    obtain ⟨k, rfl⟩ : ∃ k, n = k + 1 := ⟨n - 1, by omega⟩
    exact okQ_tI k a
  eqq := eqQ_tuG
theorem commR {lo : List Int} : ∀ a ∈ mems lo, ∀ b ∈ mems lo, putV lo a b = putV lo b a := fun _ ha _ hb => putV_comm (mem_mems.mp ha).len (mem_mems.mp hb).len
def PutF0 {α : Type} (V : α → D) (els : List α) (put : α → α → α) (G : D) : Prop := ∃ f, mthD mt_put G = .ok f ∧ ∀ a ∈ els, ∀ b ∈ els, f [V a, V b] = .ok (V (put a b))
def ZeroF0 {α : Type} (V : α → D) (zero : α) (G : D) : Prop := ∃ f, mthD mt_nought G = .ok f ∧ f [] = .ok (V zero)
def MemF0 {α : Type} (V : α → D) (els : List α) (G : D) : Prop := ∃ f, mthD mt_members G = .ok f ∧ f [] = .ok (.lst (els.map V))
def EvenF0 (G : D) (b : Bool) : Prop := ∃ f, mthD mt_is_even G = .ok f ∧ f [] = .ok (.bl b)
theorem putR0 {lo : List Int} (g : OkG lo) : PutF0 tuI (mems lo) (putV lo) (gR lo) := ⟨_, rfl, fun a ha b hb => put_ok g.ok (mem_mems.mp ha).len (mem_mems.mp hb).len⟩
theorem zeroR0 {lo : List Int} (g : OkG lo) : ZeroF0 tuI (zeroV lo) (gR lo) := ⟨_, rfl, nought_ok g.ok⟩
theorem memR0 {lo : List Int} (g : OkG lo) : MemF0 tuI (mems lo) (gR lo) := ⟨_, rfl, members_ok g.ok g.most g.prod⟩
/-- a closed part of an even group, by which every times that lies in it can be divided as in the group -/
structure SubC {α : Type} [DecidableEq α] (els : List α) (put : α → α → α) (back : α → α) (zero : α) (C : List α) : Prop where
  nd : C.Nodup
  sub : ∀ c ∈ C, c ∈ els
  z : zero ∈ C
  p : ∀ a ∈ C, ∀ b ∈ C, put a b ∈ C
  b : ∀ a ∈ C, back a ∈ C
  pure : ∀ g ∈ els, ∀ n, powG put zero n g ∈ C → ∃ c ∈ C, powG put zero n g = powG put zero n c
/-- the least number by which an element comes into C, and all others by it -/
structure OrdC {α : Type} (put : α → α → α) (zero : α) (C : List α) (x : α) (m : Nat) : Prop where
  one : 1 ≤ m
  iff : ∀ k, powG put zero k x ∈ C ↔ m ∣ k
theorem val_ex (p : Nat) (hp : 2 ≤ p) (n : Nat) : 1 ≤ n → ∃ i m, n = p ^ i * m ∧ ¬ p ∣ m := by
  induction n using Nat.strongRecOn with
  | ind n ih =>
    intro h1
    by_cases hd : p ∣ n
    · obtain ⟨q, rfl⟩ := hd
      have hq : 1 ≤ q := Nat.pos_of_mul_pos_left (a := p) (by omega)
      obtain ⟨i, m, e, hm⟩ := ih q (by have := Nat.mul_le_mul_right q hp; omega) hq
      refine ⟨i + 1, m, ?_, hm⟩
      rw [e, Nat.pow_succ]
      ac_rfl
    · exact ⟨0, n, by simp, hd⟩
theorem prime_ex (n : Nat) (h : 2 ≤ n) : ∃ p, 2 ≤ p ∧ p ∣ n ∧ ∀ d, d ∣ p → d = 1 ∨ d = p := by
  obtain ⟨p, p1, p2, p3, p4⟩ := least_nat (P := fun k => 2 ≤ k ∧ k ∣ n) n (by omega) ⟨h, Nat.dvd_refl n⟩
  refine ⟨p, p3.1, p3.2, fun d hd => ?_⟩
  have hp : 0 < p := by omega
  have hle := Nat.le_of_dvd hp hd
  have h0 : 0 < d := Nat.pos_of_dvd_of_pos hd hp
  by_cases h1 : d = 1
  · exact Or.inl h1
  · refine Or.inr (Classical.byContradiction fun hne => p4 d (by omega) (by omega) ⟨by omega, Nat.dvd_trans hd p3.2⟩)
/-- two numbers, the second one not in the first one: parts of them without a common measure, whose product is greater -/
theorem parts_big {a b : Nat} (ha : 1 ≤ a) (hb : 1 ≤ b) (h : ¬ b ∣ a) : ∃ a' b', a' ∣ a ∧ b' ∣ b ∧ Nat.Coprime a' b' ∧ a < a' * b' := by
  have hg := Nat.gcd_pos_of_pos_left b ha
  obtain ⟨t, ht⟩ := Nat.gcd_dvd_right a b
  have t1 : t ≠ 1 := fun e => h (by rw [e, Nat.mul_one] at ht; rw [ht]; exact Nat.gcd_dvd_left a b)
  have t0 : t ≠ 0 := fun e => by rw [e, Nat.mul_zero] at ht; omega
  obtain ⟨p, p2, pd, pp⟩ := prime_ex t (by omega)
  obtain ⟨i, m, ea, hm⟩ := val_ex p p2 a ha
  obtain ⟨j, n, eb, hn⟩ := val_ex p p2 b hb
  have cop : ∀ s x : Nat, ¬ p ∣ x → Nat.Coprime x (p ^ s) := fun s x hx => by
    refine Nat.Coprime.pow_right s ?_
    rcases pp _ (Nat.gcd_dvd_right x p) with e | e
    · exact e
    · exact absurd (e ▸ Nat.gcd_dvd_left x p) hx
  have hij : i < j := by
    refine Nat.lt_of_not_le fun hle => ?_
    have d1 : p ^ j ∣ Nat.gcd a b := Nat.dvd_gcd (ea ▸ Nat.dvd_trans (Nat.pow_dvd_pow p hle) (Nat.dvd_mul_right _ _)) (eb ▸ Nat.dvd_mul_right _ _)
    obtain ⟨g', hg'⟩ := d1
    have : p ^ j * (g' * t) = p ^ j * n := by rw [← Nat.mul_assoc, ← hg', ← ht, eb]
    have e2 := Nat.eq_of_mul_eq_mul_left (Nat.pow_pos (by omega : 0 < p)) this
    exact hn (e2 ▸ Nat.dvd_trans pd (Nat.dvd_mul_left _ _))
  refine ⟨m, p ^ j, ea ▸ Nat.dvd_mul_left _ _, eb ▸ Nat.dvd_mul_right _ _, cop j m hm, ?_⟩
  have hm0 : 0 < m := Nat.pos_of_ne_zero fun e => by rw [e] at ea; omega
  have : p ^ i < p ^ j := Nat.pow_lt_pow_right (by omega) hij
  have := Nat.mul_lt_mul_of_pos_right this hm0
  rw [ea, Nat.mul_comm m]
  exact this
theorem bez_int : ∀ m n : Nat, ∃ u v : Int, (m : Int) * u + n * v = (Nat.gcd m n : Nat) := fun m => by
  induction m using Nat.strongRecOn with
  | ind m ih =>
    intro n
    by_cases h0 : m = 0
    · subst h0
      exact ⟨0, 1, by simp⟩
    · obtain ⟨u, v, e⟩ := ih (n % m) (Nat.mod_lt _ (by omega)) m
      refine ⟨v - (n / m : Nat) * u, u, ?_⟩
      rw [Nat.gcd_rec m n, ← e]
      have q : (n : Int) = (m : Int) * (n / m : Nat) + (n % m : Nat) := by
        have := Nat.div_add_mod n m
        omega
      generalize ((n / m : Nat) : Int) = k at q ⊢
      generalize ((n % m : Nat) : Int) = r at q ⊢
      rw [q]
      grind
theorem bez (n e : Nat) (he : 1 ≤ e) : ∃ u : Nat, (n * u) % e = Nat.gcd n e % e := by
  obtain ⟨u, v, h⟩ := bez_int n e
  refine ⟨(u % e).toNat, ?_⟩
  have hu := Int.emod_nonneg u (show (e : Int) ≠ 0 by omega)
  have q : (((n * (u % e).toNat) % e : Nat) : Int) = ((Nat.gcd n e % e : Nat) : Int) := by
    rw [Int.natCast_emod, Int.natCast_mul, Int.toNat_of_nonneg hu, Int.natCast_emod, ← h, Int.mul_emod, Int.emod_emod, ← Int.mul_emod]
    rw [Int.add_mul_emod_self_left]
  omega
section
variable {α : Type} [DecidableEq α] {h : Nat} {V : α → D} {els : List α} {put : α → α → α} {back : α → α} {zero : α} {C : List α}
theorem GrpG.swap4 (L : GrpG h V els put back zero) (cm : ∀ a ∈ els, ∀ b ∈ els, put a b = put b a) {a b c d : α} (ha : a ∈ els) (hb : b ∈ els) (hc : c ∈ els) (hd : d ∈ els) : put (put a b) (put c d) = put (put a c) (put b d) := by
  rw [L.assoc _ ha _ hb _ (L.putE _ hc _ hd), ← L.assoc _ hb _ hc _ hd, cm b hb c hc, L.assoc _ hc _ hb _ hd, ← L.assoc _ ha _ hc _ (L.putE _ hb _ hd)]
theorem GrpG.pow_put (L : GrpG h V els put back zero) (cm : ∀ a ∈ els, ∀ b ∈ els, put a b = put b a) {a b : α} (ha : a ∈ els) (hb : b ∈ els) : ∀ n, powG put zero n (put a b) = put (powG put zero n a) (powG put zero n b)
  | 0 => (L.pz _ L.zeroE).symm
  | n + 1 => by
    show put (powG put zero n (put a b)) (put a b) = put (put (powG put zero n a) a) (put (powG put zero n b) b)
    rw [GrpG.pow_put L cm ha hb n, L.swap4 cm (L.powE ha n) (L.powE hb n) ha hb]
theorem SubC.pow (S : SubC els put back zero C) {c : α} (hc : c ∈ C) : ∀ n, powG put zero n c ∈ C
  | 0 => S.z
  | n + 1 => S.p _ (SubC.pow S hc n) _ hc
theorem SubC.of_put (L : GrpG h V els put back zero) (S : SubC els put back zero C) {a b : α} (ha : a ∈ C) (hb : b ∈ els) (hp : put a b ∈ C) : b ∈ C := by
  have := S.p _ (S.b a ha) _ hp
  rwa [← L.assoc _ (L.backE a (S.sub a ha)) _ (S.sub a ha) _ hb, L.bp a (S.sub a ha), L.zp b hb] at this
theorem SubC.of_put' (L : GrpG h V els put back zero) (S : SubC els put back zero C) {a b : α} (ha : a ∈ C) (hb : b ∈ els) (hp : put b a ∈ C) : b ∈ C := by
  have := S.p _ hp _ (S.b a ha)
  rwa [L.assoc _ hb _ (S.sub a ha) _ (L.backE a (S.sub a ha)), L.pb a (S.sub a ha), L.pz b hb] at this
theorem OrdC.of_least (L : GrpG h V els put back zero) (S : SubC els put back zero C) {x : α} (hx : x ∈ els) {m : Nat} (h1 : 1 ≤ m) (hm : powG put zero m x ∈ C) (hl : ∀ j, 1 ≤ j → j < m → powG put zero j x ∉ C) : OrdC put zero C x m := by
  refine ⟨h1, fun k => ⟨fun hk => ?_, ?_⟩⟩
  · have e : m * (k / m) + k % m = k := Nat.div_add_mod k m
    rw [← e, L.pow_add hx, L.pow_mul hx] at hk
    have h2 := S.of_put L (S.pow hm (k / m)) (L.powE hx _) hk
    have h3 := Nat.mod_lt k h1
    refine Nat.dvd_of_mod_eq_zero (Classical.byContradiction fun hne => hl (k % m) (by omega) h3 h2)
  · rintro ⟨q, rfl⟩
    rw [L.pow_mul hx]
    exact S.pow hm q
theorem OrdC.ex (L : GrpG h V els put back zero) (S : SubC els put back zero C) {x : α} (hx : x ∈ els) : ∃ m, OrdC put zero C x m := by
  obtain ⟨n, _, o⟩ := L.ord_ex hx
  obtain ⟨m, m1, _, m3, m4⟩ := least_nat (P := fun n => powG put zero n x ∈ C) n o.one (by rw [o.z]; exact S.z)
  exact ⟨m, OrdC.of_least L S hx m1 m3 m4⟩
/-- an element whose times come into C at the nought alone, as far from C as any other one -/
theorem OrdC.lift (L : GrpG h V els put back zero) (cm : ∀ a ∈ els, ∀ b ∈ els, put a b = put b a) (S : SubC els put back zero C) {g : α} (hg : g ∈ els) {m : Nat} (o : OrdC put zero C g m) : ∃ y ∈ els, OrdG put zero y m ∧ OrdC put zero C y m := by
  obtain ⟨c, hc, e⟩ := S.pure g hg m ((o.iff m).mpr (Nat.dvd_refl m))
  have hcE := S.sub c hc
  have hb := L.backE c hcE
  have hy := L.putE _ hg _ hb
  have pw : ∀ j, powG put zero j (put g (back c)) = put (powG put zero j g) (back (powG put zero j c)) := fun j => by rw [L.pow_put cm hg hb, L.pow_back hcE]
  have z : powG put zero m (put g (back c)) = zero := by rw [pw, e, L.pb _ (L.powE hcE m)]
  have nin : ∀ j, 1 ≤ j → j < m → powG put zero j (put g (back c)) ∉ C := fun j h1 h2 hin => by
    rw [pw] at hin
    have := S.of_put' L (S.b _ (S.pow hc j)) (L.powE hg j) hin
    have := Nat.le_of_dvd (by omega) ((o.iff j).mp this)
    omega
  exact ⟨_, hy, ⟨o.one, z, fun j h1 h2 e => nin j h1 h2 (by rw [e]; exact S.z)⟩, OrdC.of_least L S hy o.one (by rw [z]; exact S.z) nin⟩
theorem OrdC.times (L : GrpG h V els put back zero) {x : α} (hx : x ∈ els) {a' q : Nat} (h1 : 1 ≤ q) (h2 : 1 ≤ a') (o : OrdC put zero C x (q * a')) : OrdC put zero C (powG put zero q x) a' :=
  ⟨h2, fun k => by rw [← L.pow_mul hx, o.iff]; exact Nat.mul_dvd_mul_iff_left h1⟩
theorem OrdC.bigger (L : GrpG h V els put back zero) (cm : ∀ a ∈ els, ∀ b ∈ els, put a b = put b a) (S : SubC els put back zero C) {x y : α} (hx : x ∈ els) (hy : y ∈ els) {a b : Nat} (oa : OrdC put zero C x a) (ob : OrdC put zero C y b) (hn : ¬ b ∣ a) : ∃ w ∈ els, ∃ n, OrdC put zero C w n ∧ a < n := by
  obtain ⟨a', b', ⟨q, ea⟩, ⟨r, eb⟩, co, lt⟩ := parts_big oa.one ob.one hn
  have p0 := oa.one
  have p1 := ob.one
  have a0 : 1 ≤ a' := Nat.pos_of_ne_zero fun e => by rw [e] at ea; omega
  have b0 : 1 ≤ b' := Nat.pos_of_ne_zero fun e => by rw [e] at eb; omega
  have q0 : 1 ≤ q := Nat.pos_of_ne_zero fun e => by rw [e] at ea; omega
  have r0 : 1 ≤ r := Nat.pos_of_ne_zero fun e => by rw [e] at eb; omega
  rw [ea, Nat.mul_comm] at oa
  rw [eb, Nat.mul_comm] at ob
  have o1 := oa.times L hx q0 a0
  have o2 := ob.times L hy r0 b0
  have e1 := L.powE hx q
  have e2 := L.powE hy r
  generalize powG put zero q x = x' at o1 e1
  generalize powG put zero r y = y' at o2 e2
  refine ⟨put x' y', L.putE _ e1 _ e2, a' * b', ⟨Nat.mul_pos a0 b0, fun k => ⟨fun hk => ?_, fun hk => ?_⟩⟩, lt⟩
  · refine Nat.Coprime.mul_dvd_of_dvd_of_dvd co ?_ ?_
    · have := S.pow hk b'
      rw [← L.pow_mul (L.putE _ e1 _ e2), L.pow_put cm e1 e2] at this
      have z2 : powG put zero (k * b') y' ∈ C := (o2.iff _).mpr (Nat.dvd_mul_left _ _)
      have := (o1.iff _).mp (S.of_put' L z2 (L.powE e1 _) this)
      exact Nat.Coprime.dvd_of_dvd_mul_right co this
    · have := S.pow hk a'
      rw [← L.pow_mul (L.putE _ e1 _ e2), L.pow_put cm e1 e2] at this
      have z2 : powG put zero (k * a') x' ∈ C := (o1.iff _).mpr (Nat.dvd_mul_left _ _)
      have := (o2.iff _).mp (S.of_put L z2 (L.powE e2 _) this)
      exact Nat.Coprime.dvd_of_dvd_mul_right co.symm this
  · rw [L.pow_put cm e1 e2]
    exact S.p _ ((o1.iff _).mpr (Nat.dvd_trans (Nat.dvd_mul_right _ _) hk)) _ ((o2.iff _).mpr (Nat.dvd_trans (Nat.dvd_mul_left _ _) hk))
theorem OrdC.kill (L : GrpG h V els put back zero) (cm : ∀ a ∈ els, ∀ b ∈ els, put a b = put b a) (S : SubC els put back zero C) {x : α} (hx : x ∈ els) {e : Nat} (o : OrdC put zero C x e) (mx : ∀ y ∈ els, ∀ m, OrdC put zero C y m → m ≤ e) : ∀ g ∈ els, powG put zero e g ∈ C := fun g hg => by
  obtain ⟨m, om⟩ := OrdC.ex L S hg
  refine (om.iff e).mpr (Classical.byContradiction fun hn => ?_)
  obtain ⟨w, hw, n, on, lt⟩ := OrdC.bigger L cm S hx hg o om hn
  have := mx w hw n on
  omega
/-- the times of an element, from itself on -/
def rowG (put : α → α → α) (zero : α) (x : α) (e : Nat) : List α := (List.range e).map fun k => powG put zero (k + 1) x
/-- what comes by C and an element's times -/
def extC (put : α → α → α) (C row : List α) : List α := C.flatMap fun c => row.map fun r => put c r
theorem mem_ext (L : GrpG h V els put back zero) (S : SubC els put back zero C) {x : α} (hx : x ∈ els) {e : Nat} (o : OrdG put zero x e) {w : α} : w ∈ extC put C (rowG put zero x e) ↔ ∃ c ∈ C, ∃ k, w = put c (powG put zero k x) := by
  unfold extC rowG
  rw [List.mem_flatMap]
  constructor
  · rintro ⟨c, hc, hw⟩
    obtain ⟨r, hr, rfl⟩ := List.mem_map.mp hw
    obtain ⟨k, _, rfl⟩ := List.mem_map.mp hr
    exact ⟨c, hc, _, rfl⟩
  · rintro ⟨c, hc, k, rfl⟩
    refine ⟨c, hc, List.mem_map.mpr ⟨_, List.mem_map.mpr ⟨(k + (e - 1)) % e, List.mem_range.mpr (Nat.mod_lt _ o.one), rfl⟩, ?_⟩⟩
    congr 1
    have h1 := o.one
    rw [L.pow_mod hx o, L.pow_mod hx o k]
    congr 1
    rw [Nat.mod_add_mod]
    have : k + (e - 1) + 1 = k + e := by omega
    rw [this, Nat.add_mod_right]
theorem ext_sub (L : GrpG h V els put back zero) (cm : ∀ a ∈ els, ∀ b ∈ els, put a b = put b a) (S : SubC els put back zero C) {x : α} (hx : x ∈ els) {e : Nat} (o : OrdG put zero x e) (oc : OrdC put zero C x e) (kl : ∀ g ∈ els, powG put zero e g ∈ C) : SubC els put back zero (extC put C (rowG put zero x e)) := by
  have me : ∀ {w : α}, w ∈ extC put C (rowG put zero x e) ↔ ∃ c ∈ C, ∃ k, w = put c (powG put zero k x) := fun {w} => mem_ext L S hx o
  refine ⟨?_, fun c hc => ?_, me.mpr ⟨zero, S.z, 0, (L.pz _ L.zeroE).symm⟩, fun a ha b hb => ?_, fun a ha => ?_, fun g hg n hn => ?_⟩
  · unfold extC rowG
    rw [List.nodup_iff_pairwise_ne, List.pairwise_flatMap]
    have key : ∀ c ∈ C, ∀ c' ∈ C, ∀ i j, i < e → j < e → i ≤ j → put c (powG put zero (i + 1) x) = put c' (powG put zero (j + 1) x) → i = j ∧ c = c' := fun c hc c' hc' i j hi hj hij e1 => by
      have s1 := S.sub c hc
      have s2 := S.sub c' hc'
      have e2 : powG put zero (j + 1) x = put (powG put zero (j - i) x) (powG put zero (i + 1) x) := by
        rw [← L.pow_add hx]
        congr 1
        omega
      rw [e2, ← L.assoc _ s2 _ (L.powE hx _) _ (L.powE hx _)] at e1
      have e3 := L.cancel_r (L.powE hx (i + 1)) s1 (L.putE _ s2 _ (L.powE hx _)) e1
      have : powG put zero (j - i) x ∈ C := S.of_put L hc' (L.powE hx _) (e3 ▸ hc)
      have dv := (oc.iff _).mp this
      have ij : i = j := by
        refine Classical.byContradiction fun hne => ?_
        have := Nat.le_of_dvd (by omega) dv
        omega
      refine ⟨ij, ?_⟩
      rw [e3, ij, Nat.sub_self]
      exact L.pz _ s2
    constructor
    · intro c hc
      rw [List.map_map, List.pairwise_map]
      refine List.Pairwise.imp_of_mem (R := (· < ·)) (fun ha hb hlt e1 => ?_) List.pairwise_lt_range
      have := (key c hc c hc _ _ (List.mem_range.mp ha) (List.mem_range.mp hb) (by omega) e1).1
      omega
    · refine List.Pairwise.imp_of_mem (fun {c c'} hc hc' hne x1 h1 y1 h2 e1 => hne ?_) (List.nodup_iff_pairwise_ne.mp S.nd)
      rw [List.map_map] at h1 h2
      obtain ⟨i, hi, rfl⟩ := List.mem_map.mp h1
      obtain ⟨j, hj, rfl⟩ := List.mem_map.mp h2
      rcases Nat.le_total i j with hij | hij
      · exact (key c hc c' hc' i j (List.mem_range.mp hi) (List.mem_range.mp hj) hij e1).2
      · exact (key c' hc' c hc j i (List.mem_range.mp hj) (List.mem_range.mp hi) hij e1.symm).2.symm
  · obtain ⟨c, hc1, k, rfl⟩ := me.mp hc
    exact L.putE _ (S.sub c hc1) _ (L.powE hx k)
  · obtain ⟨c, hc, k, rfl⟩ := me.mp ha
    obtain ⟨c', hc', k', rfl⟩ := me.mp hb
    exact me.mpr ⟨put c c', S.p _ hc _ hc', k + k', by rw [L.swap4 cm (S.sub c hc) (L.powE hx k) (S.sub c' hc') (L.powE hx k'), L.pow_add hx]⟩
  · obtain ⟨c, hc, k, rfl⟩ := me.mp ha
    have s1 := S.sub c hc
    refine me.mpr ⟨back c, S.b c hc, (e - 1) * k, (L.back_of (L.putE _ s1 _ (L.powE hx k)) (L.putE _ (L.backE c s1) _ (L.powE hx _)) ?_).symm⟩
    rw [L.swap4 cm (L.backE c s1) (L.powE hx _) s1 (L.powE hx k), L.bp c s1, ← L.pow_add hx]
    have : (e - 1) * k + k = e * k := by
      have := o.one
      rw [Nat.sub_mul, Nat.one_mul]
      have : k ≤ e * k := Nat.le_mul_of_pos_left k (by omega)
      omega
    rw [this, L.pow_mul hx, o.z, L.pow_zero, L.pz _ L.zeroE]
  · obtain ⟨c, hc, k, ek⟩ := me.mp hn
    have he := o.one
    have hcE := S.sub c hc
    obtain ⟨u, hu⟩ := bez n e he
    have dk : Nat.gcd n e ∣ k := by
      obtain ⟨e', ee⟩ := Nat.gcd_dvd_right n e
      obtain ⟨n', en⟩ := Nat.gcd_dvd_left n e
      have gp : 0 < Nat.gcd n e := Nat.gcd_pos_of_pos_right n (by omega)
      generalize Nat.gcd n e = d at *
      have hin : powG put zero (n * e') g ∈ C := by
        have : n * e' = e * n' := by rw [en, ee]; ac_rfl
        rw [this, L.pow_mul hg]
        exact S.pow (kl g hg) n'
      rw [L.pow_mul hg, ek, L.pow_put cm hcE (L.powE hx k), ← L.pow_mul hx] at hin
      have := (oc.iff _).mp (S.of_put L (S.pow hc e') (L.powE hx _) hin)
      have e0 : 0 < e' := Nat.pos_of_ne_zero fun h0 => by rw [h0] at ee; omega
      have h3 : e = e' * d := by rw [ee]; ac_rfl
      have h4 : k * e' = e' * k := by ac_rfl
      have : e' * d ∣ e' * k := h4 ▸ h3 ▸ this
      exact (Nat.mul_dvd_mul_iff_left e0).mp this
    obtain ⟨k2, rfl⟩ := dk
    have e5 : powG put zero (Nat.gcd n e * k2) x = powG put zero n (powG put zero (u * k2) x) := by
      rw [← L.pow_mul hx, L.pow_mod hx o, L.pow_mod hx o (u * k2 * n)]
      congr 1
      rw [show u * k2 * n = n * u * k2 by ac_rfl, Nat.mul_mod, Nat.mul_mod (n * u), hu]
    have fin : ∀ c' ∈ C, put c' (powG put zero (u * k2) x) ∈ extC put C (rowG put zero x e) := fun c' hc' => me.mpr ⟨c', hc', _, rfl⟩
    have hw := L.powE hx (u * k2)
    generalize powG put zero (u * k2) x = w at e5 hw fin
    rw [e5] at ek
    have e6 : powG put zero n (put g (back w)) = c := by
      rw [L.pow_put cm hg (L.backE w hw), ek, L.pow_back hw, L.assoc _ hcE _ (L.powE hw n) _ (L.backE _ (L.powE hw n)), L.pb _ (L.powE hw n), L.pz c hcE]
    obtain ⟨c', hc', e7⟩ := S.pure _ (L.putE _ hg _ (L.backE w hw)) n (by rw [e6]; exact hc)
    rw [e6] at e7
    refine ⟨put c' w, fin c' hc', ?_⟩
    rw [ek, L.pow_put cm (S.sub c' hc') hw, ← e7]
end
section
variable {α : Type} [DecidableEq α]
/-- the order of an element, found -/
def ordNN (els : List α) (put : α → α → α) (zero : α) (x : α) : Nat := (((List.range els.length).find? fun k => decide (powG put zero (k + 1) x = zero)).getD 0) + 1
/-- its row of times -/
def rowN (els : List α) (put : α → α → α) (zero : α) (x : α) : List α := rowG put zero x (ordNN els put zero x)
/-- the row that is longest of those that come into C at last alone -/
def bestG (C : List α) (zero : α) (rows : List (List α)) : List α := rows.foldl (fun b r => if r.length > b.length ∧ (∀ x ∈ r.dropLast, x ∉ C) then r else b) [zero]
variable {h : Nat} {V : α → D} {els : List α} {put : α → α → α} {back : α → α} {zero : α} {C : List α}
theorem GrpG.ordN (L : GrpG h V els put back zero) {x : α} (hx : x ∈ els) : OrdG put zero x (ordNN els put zero x) := by
  obtain ⟨m, hm, o⟩ := L.ord_ex hx
  have h1 := o.one
  have e : (List.range els.length).find? (fun k => decide (powG put zero (k + 1) x = zero)) = some (m - 1) := by
    rw [List.find?_eq_some_iff_append]
    refine ⟨decide_eq_true ?_, List.range (m - 1), (List.range (els.length - m)).map (m + ·), ?_, fun k hk => ?_⟩
    · rw [show m - 1 + 1 = m by omega]
      exact o.z
    · have e1 : els.length = (m - 1) + (1 + (els.length - m)) := by omega
      conv => lhs; rw [e1, List.range_add, List.range_add]
      simp
      refine fun a _ => ?_
      omega
    · have := List.mem_range.mp hk
      have := o.le (k + 1) (by omega) (by omega)
      simpa using this
  unfold ordNN
  rw [e]
  simp only [Option.getD_some]
  rw [show m - 1 + 1 = m by omega]
  exact o
theorem rowG_len (x : α) (e : Nat) : (rowG put zero x e).length = e := by simp [rowG]
theorem rowG_last (x : α) (e : Nat) : (rowG put zero x (e + 1)).dropLast = rowG put zero x e := by simp [rowG, List.range_succ]
theorem mem_rowG {x : α} {e : Nat} {w : α} : w ∈ rowG put zero x e ↔ ∃ k, 1 ≤ k ∧ k ≤ e ∧ w = powG put zero k x := by
  unfold rowG
  rw [List.mem_map]
  constructor
  · rintro ⟨k, hk, rfl⟩
    exact ⟨k + 1, by omega, by have := List.mem_range.mp hk; omega, rfl⟩
  · rintro ⟨k, h1, h2, rfl⟩
    exact ⟨k - 1, List.mem_range.mpr (by omega), by rw [show k - 1 + 1 = k by omega]⟩
theorem bestG_is (L : GrpG h V els put back zero) (zC : zero ∈ C) (sC : SubC els put back zero C) : ∃ x ∈ els, ∃ e, bestG C zero (els.map (rowN els put zero)) = rowG put zero x e ∧ OrdG put zero x e ∧ OrdC put zero C x e ∧ ∀ y ∈ els, ∀ m, OrdG put zero y m → OrdC put zero C y m → m ≤ e := by
  have key : ∀ xs : List α, (∀ x ∈ xs, x ∈ els) → ∀ b x0 e0, x0 ∈ els → b = rowG put zero x0 e0 → OrdG put zero x0 e0 → OrdC put zero C x0 e0 → ∃ x ∈ els, ∃ e, (xs.map (rowN els put zero)).foldl (fun b r => if r.length > b.length ∧ (∀ x ∈ r.dropLast, x ∉ C) then r else b) b = rowG put zero x e ∧ OrdG put zero x e ∧ OrdC put zero C x e ∧ e0 ≤ e ∧ ∀ y ∈ xs, ∀ m, OrdG put zero y m → OrdC put zero C y m → m ≤ e := by
    intro xs
    induction xs with
    | nil => exact fun _ b x0 e0 h0 hb o oc => ⟨x0, h0, e0, hb, o, oc, Nat.le_refl _, fun _ h => nomatch h⟩
    | cons y xs ih =>
      intro hxs b x0 e0 h0 hb o oc
      have hy := hxs y List.mem_cons_self
      have oy := L.ordN hy
      have rest := ih fun x hx => hxs x (List.mem_cons_of_mem _ hx)
      rw [List.map_cons, List.foldl_cons]
      have q : (∀ x ∈ (rowN els put zero y).dropLast, x ∉ C) ↔ OrdC put zero C y (ordNN els put zero y) := by
        have h1 := oy.one
        unfold rowN
        generalize ordNN els put zero y = n at *
        obtain ⟨n, rfl⟩ : ∃ k, n = k + 1 := ⟨n - 1, by omega⟩
        rw [rowG_last]
        constructor
        · intro hh
          refine OrdC.of_least L sC hy (by omega) (by rw [oy.z]; exact zC) fun j j1 j2 => hh _ (mem_rowG.mpr ⟨j, j1, by omega, rfl⟩)
        · intro oc' w hw
          obtain ⟨k, k1, k2, rfl⟩ := mem_rowG.mp hw
          intro hin
          have := Nat.le_of_dvd (by omega) ((oc'.iff k).mp hin)
          omega
      have lenr : (rowN els put zero y).length = ordNN els put zero y := rowG_len _ _
      split
      · rename_i hc
        rw [lenr, hb, rowG_len] at hc
        obtain ⟨x, hx, e, e1, e2, e3, e4, e5⟩ := rest (rowN els put zero y) y _ hy rfl oy (q.mp hc.2)
        refine ⟨x, hx, e, e1, e2, e3, by omega, fun z hz m om oc' => ?_⟩
        rcases List.mem_cons.mp hz with rfl | hz
        · rw [om.uniq oy]; exact e4
        · exact e5 z hz m om oc'
      · rename_i hc
        obtain ⟨x, hx, e, e1, e2, e3, e4, e5⟩ := rest b x0 e0 h0 hb o oc
        refine ⟨x, hx, e, e1, e2, e3, e4, fun z hz m om oc' => ?_⟩
        rcases List.mem_cons.mp hz with rfl | hz
        · refine Classical.byContradiction fun hlt => hc ?_
          rw [lenr, hb, rowG_len]
          have u := om.uniq oy
          exact ⟨by omega, q.mpr (u ▸ oc')⟩
        · exact e5 z hz m om oc'
  have oz : OrdG put zero zero 1 := ⟨Nat.le_refl _, L.pow_one L.zeroE, fun j j1 j2 => by omega⟩
  obtain ⟨x, hx, e, e1, e2, e3, _, e5⟩ := key els (fun _ h => h) [zero] zero 1 L.zeroE (by
    show [zero] = [put zero zero]
    rw [L.pz _ L.zeroE]) oz (OrdC.of_least L sC L.zeroE (Nat.le_refl _) (by rw [oz.z]; exact zC) fun j j1 j2 => by omega)
  exact ⟨x, hx, e, e1, e2, e3, e5⟩
/-- a sum of times -/
def comG (put : α → α → α) (zero : α) (v : List Int) (gs : List (α × Nat)) : α := (v.zip gs).foldl (fun t p => put t (powG put zero p.1.toNat p.2.1)) zero
def rndG (gs : List (α × Nat)) : List Int := gs.map fun p => (p.2 : Int)
/-- what comes, told by parts found (the last one first) -/
structure PartsI (els : List α) (put : α → α → α) (back : α → α) (zero : α) (C : List α) (gs : List (α × Nat)) : Prop where
  sub : SubC els put back zero C
  g : ∀ p ∈ gs, p.1 ∈ els ∧ OrdG put zero p.1 p.2 ∧ 2 ≤ p.2
  kl : ∀ p, gs.head? = some p → ∀ x ∈ els, powG put zero p.2 x ∈ C
  dv : gs.Pairwise fun p q => p.2 ∣ q.2
  cov : ∀ c ∈ C, ∃ v, OkE (rndG gs) v ∧ comG put zero v gs = c
  len : (C.length : Int) = ((mems (rndG gs)).length : Nat)
theorem com_in (L : GrpG h V els put back zero) : ∀ (gs : List (α × Nat)) (v : List Int), (∀ p ∈ gs, p.1 ∈ els) → ∀ t ∈ els, (v.zip gs).foldl (fun t p => put t (powG put zero p.1.toNat p.2.1)) t ∈ els
  | [], v, _, t, ht => by rw [List.zip_nil_right]; exact ht
  | p :: gs, [], _, t, ht => ht
  | p :: gs, n :: v, hg, t, ht => by
    rw [List.zip_cons_cons, List.foldl_cons]
    exact com_in L gs v (fun q hq => hg q (List.mem_cons_of_mem _ hq)) _ (L.putE _ ht _ (L.powE (hg p List.mem_cons_self) _))
theorem com_start (L : GrpG h V els put back zero) : ∀ (gs : List (α × Nat)) (v : List Int), (∀ p ∈ gs, p.1 ∈ els) → ∀ t ∈ els, (v.zip gs).foldl (fun t p => put t (powG put zero p.1.toNat p.2.1)) t = put t (comG put zero v gs)
  | [], v, _, t, ht => by unfold comG; rw [List.zip_nil_right]; exact (L.pz t ht).symm
  | p :: gs, [], _, t, ht => (L.pz t ht).symm
  | p :: gs, n :: v, hg, t, ht => by
    have hp := L.powE (hg p List.mem_cons_self) n.toNat
    have hgs : ∀ q ∈ gs, q.1 ∈ els := fun q hq => hg q (List.mem_cons_of_mem _ hq)
    unfold comG
    rw [List.zip_cons_cons, List.foldl_cons, List.foldl_cons, com_start L gs v hgs _ (L.putE _ ht _ hp), com_start L gs v hgs _ (L.putE _ L.zeroE _ hp), L.zp _ hp, L.assoc _ ht _ hp _ (show comG put zero v gs ∈ els from com_in L gs v hgs _ L.zeroE)]
theorem com_cons (L : GrpG h V els put back zero) {p : α × Nat} {gs : List (α × Nat)} (n : Int) (v : List Int) (hg : ∀ q ∈ p :: gs, q.1 ∈ els) : comG put zero (n :: v) (p :: gs) = put (powG put zero n.toNat p.1) (comG put zero v gs) := by
  have hp := L.powE (hg p List.mem_cons_self) n.toNat
  have hgs : ∀ q ∈ gs, q.1 ∈ els := fun q hq => hg q (List.mem_cons_of_mem _ hq)
  show ((n :: v).zip (p :: gs)).foldl _ _ = _
  rw [List.zip_cons_cons, List.foldl_cons, com_start L gs v hgs _ (L.putE _ L.zeroE _ hp), L.zp _ hp]
theorem comE (L : GrpG h V els put back zero) {gs : List (α × Nat)} (hg : ∀ p ∈ gs, p.1 ∈ els) (v : List Int) : comG put zero v gs ∈ els := com_in L gs v hg _ L.zeroE
theorem PartsI.start (L : GrpG h V els put back zero) (cm : ∀ a ∈ els, ∀ b ∈ els, put a b = put b a) : PartsI els put back zero [zero] [] := by
  refine ⟨⟨(by simp), ?_, (by simp), fun a ha b hb => ?_, fun a ha => ?_, fun g hg n hn => ?_⟩, (fun _ h => nomatch h), (fun _ h => nomatch h), .nil, fun c hc => ⟨[], OkE.nil, ?_⟩, rfl⟩
  · intro c hc
    rw [List.mem_singleton.mp hc]
    exact L.zeroE
  · rw [List.mem_singleton.mp ha, List.mem_singleton.mp hb, L.pz _ L.zeroE]; simp
  · rw [List.mem_singleton.mp ha, L.back_zero]; simp
  · refine ⟨zero, by simp, ?_⟩
    rw [List.mem_singleton.mp hn, L.pow_zero]
  · rw [List.mem_singleton.mp hc]
    rfl
theorem mems_cons (n : Nat) (rs : List Int) (h : ∀ m ∈ rs, 0 ≤ m) : ((mems ((n : Int) :: rs)).length : Int) = n * (mems rs).length := by
  rw [mems_len h, mems_len (by simpa using h), List.foldl_cons, Int.one_mul]
  have : ∀ (l : List Int) (a b : Int), l.foldl (· * ·) (a * b) = a * l.foldl (· * ·) b := by
    intro l
    induction l with
    | nil => exact fun _ _ => rfl
    | cons c l ih => exact fun a b => by rw [List.foldl_cons, List.foldl_cons, Int.mul_assoc, ih]
  have := this rs n 1
  rwa [Int.mul_one] at this
theorem rnd_pos (gs : List (α × Nat)) : ∀ m ∈ rndG gs, 0 ≤ m := fun m hm => by
  obtain ⟨p, _, rfl⟩ := List.mem_map.mp hm
  omega
/-- one step of the search: while not all has come, there is a part more -/
theorem PartsI.step (L : GrpG h V els put back zero) (cm : ∀ a ∈ els, ∀ b ∈ els, put a b = put b a) {gs : List (α × Nat)} (I : PartsI els put back zero C gs) (lt : C.length < els.length) :
    ∃ x ∈ els, ∃ e, 2 ≤ e ∧ bestG C zero (els.map (rowN els put zero)) = rowG put zero x e ∧ OrdG put zero x e ∧ (extC put C (rowG put zero x e)).Nodup ∧ C.length < (extC put C (rowG put zero x e)).length ∧ PartsI els put back zero (extC put C (rowG put zero x e)) ((x, e) :: gs) := by
  obtain ⟨x, hx, e, e1, o, oc, mx⟩ := bestG_is L I.sub.z I.sub
  have mx' : ∀ y ∈ els, ∀ m, OrdC put zero C y m → m ≤ e := fun y hy m om => by
    obtain ⟨y', hy', o1, o2⟩ := OrdC.lift L cm I.sub hy om
    exact mx y' hy' m o1 o2
  have kl := OrdC.kill L cm I.sub hx oc mx'
  have e2 : 2 ≤ e := by
    refine Classical.byContradiction fun hn => ?_
    have h1 := oc.one
    have : e = 1 := by omega
    subst this
    have : els.length ≤ C.length := nodup_le L.nd fun g hg => by
      have := kl g hg
      rwa [L.pow_one hg] at this
    omega
  have S' := ext_sub L cm I.sub hx o oc kl
  have lenE : (extC put C (rowG put zero x e)).length = C.length * e := by
    unfold extC
    rw [List.length_flatMap]
    simp [rowG_len, List.map_const']
  have sup : ∀ c ∈ C, c ∈ extC put C (rowG put zero x e) := fun c hc => (mem_ext L I.sub hx o).mpr ⟨c, hc, 0, (L.pz c (I.sub.sub c hc)).symm⟩
  have c1 : 1 ≤ C.length := List.length_pos_of_mem I.sub.z
  refine ⟨x, hx, e, e2, e1, o, S'.nd, ?_, S', ?_, ?_, ?_, ?_, ?_⟩
  · rw [lenE]
    have := Nat.mul_le_mul_left C.length e2
    omega
  · intro p hp
    rcases List.mem_cons.mp hp with rfl | hp
    · exact ⟨hx, o, e2⟩
    · exact I.g p hp
  · intro p hp y hy
    cases hp
    exact sup _ (kl y hy)
  · rw [List.pairwise_cons]
    refine ⟨?_, I.dv⟩
    cases gs with
    | nil => exact fun _ h => nomatch h
    | cons q gs =>
      have d1 : e ∣ q.2 := (oc.iff _).mp (I.kl q rfl x hx)
      intro r hr
      rcases List.mem_cons.mp hr with rfl | hr
      · exact d1
      · exact Nat.dvd_trans d1 ((List.pairwise_cons.mp I.dv).1 r hr)
  · intro w hw
    obtain ⟨c, hc, k, rfl⟩ := (mem_ext L I.sub hx o).mp hw
    obtain ⟨v, hv, rfl⟩ := I.cov c hc
    have h1 := o.one
    refine ⟨((k % e : Nat) : Int) :: v, ?_, ?_⟩
    · have := Nat.mod_lt k h1
      exact OkE.cons.mpr ⟨⟨by omega, by show ((k % e : Nat) : Int) < (e : Int); omega⟩, hv⟩
    · have hg : ∀ q ∈ (x, e) :: gs, q.1 ∈ els := fun q hq => by
        rcases List.mem_cons.mp hq with rfl | hq
        · exact hx
        · exact (I.g q hq).1
      rw [com_cons L _ v hg, Int.toNat_natCast, ← L.pow_mod hx o]
      exact cm _ (L.powE hx k) _ (comE L (fun p hp => (I.g p hp).1) v)
  · rw [lenE]
    show _ = ((mems ((e : Int) :: rndG gs)).length : Int)
    rw [mems_cons e _ (rnd_pos gs), ← I.len]
    simp [Int.mul_comm]
/-- all by parts -/
structure PlainG (els : List α) (put : α → α → α) (zero : α) (gs : List (α × Nat)) : Prop where
  g : ∀ p ∈ gs, p.1 ∈ els ∧ OrdG put zero p.1 p.2 ∧ 2 ≤ p.2
  dv : gs.Pairwise fun p q => p.2 ∣ q.2
  cov : ∀ c ∈ els, ∃ v, OkE (rndG gs) v ∧ comG put zero v gs = c
  len : els.length = (mems (rndG gs)).length
theorem PartsI.plain {gs : List (α × Nat)} (L : GrpG h V els put back zero) (I : PartsI els put back zero C gs) (h : els.length ≤ C.length) : PlainG els put zero gs ∧ ∀ x ∈ els, x ∈ C := by
  have le : C.length ≤ els.length := nodup_le I.sub.nd I.sub.sub
  have all : ∀ x ∈ els, x ∈ C := fun x hx => Classical.byContradiction fun hn => by
    have := nodup_le (xs := x :: C) (ys := els) (List.nodup_cons.mpr ⟨hn, I.sub.nd⟩) fun y hy => by
      rcases List.mem_cons.mp hy with rfl | hy
      · exact hx
      · exact I.sub.sub y hy
    rw [List.length_cons] at this
    omega
  exact ⟨⟨I.g, I.dv, fun c hc => I.cov c (all c hc), by have := I.len; omega⟩, all⟩
theorem nodup_of_cov : ∀ {xs ys : List α}, ys.Nodup → xs.length ≤ ys.length → (∀ y ∈ ys, y ∈ xs) → xs.Nodup
  | [], _, _, _, _ => .nil
  | x :: xs, ys, hn, hl, hs => by
    have hx : x ∉ xs := fun hin => by
      have := nodup_le (xs := ys) (ys := xs) hn fun y hy => by
        rcases List.mem_cons.mp (hs y hy) with rfl | h
        · exact hin
        · exact h
      rw [List.length_cons] at hl
      omega
    refine List.nodup_cons.mpr ⟨hx, nodup_of_cov (ys := ys.erase x) (hn.erase x) ?_ fun y hy => ?_⟩
    · rw [List.length_cons] at hl
      by_cases hm : x ∈ ys
      · rw [List.length_erase_of_mem hm]
        omega
      · rw [List.erase_of_not_mem hm]; omega
    · rcases List.mem_cons.mp (hs y (List.mem_of_mem_erase hy)) with rfl | h
      · exact absurd hy (hn.not_mem_erase)
      · exact h
theorem PlainG.nd {gs : List (α × Nat)} (L : GrpG h V els put back zero) (P : PlainG els put zero gs) : ((mems (rndG gs)).map fun v => comG put zero v gs).Nodup :=
  nodup_of_cov L.nd (by rw [List.length_map, P.len]; exact Nat.le_refl _) fun y hy => by
    obtain ⟨v, hv, e⟩ := P.cov y hy
    exact List.mem_map.mpr ⟨v, mem_mems.mpr hv, e⟩
theorem PlainG.inj {gs : List (α × Nat)} (L : GrpG h V els put back zero) (P : PlainG els put zero gs) {v w : List Int} (hv : OkE (rndG gs) v) (hw : OkE (rndG gs) w) (e : comG put zero v gs = comG put zero w gs) : v = w := by
  have nd := P.nd L
  rw [List.nodup_iff_pairwise_ne, List.pairwise_map] at nd
  refine Classical.byContradiction fun hne => ?_
  have key : ∀ {l : List (List Int)}, l.Pairwise (fun a b => comG put zero a gs ≠ comG put zero b gs) → v ∈ l → w ∈ l → False := by
    intro l
    induction l with
    | nil => exact fun _ h => nomatch h
    | cons a l ih =>
      intro hp h1 h2
      obtain ⟨p1, p2⟩ := List.pairwise_cons.mp hp
      rcases List.mem_cons.mp h1 with e1 | h3 <;> rcases List.mem_cons.mp h2 with e2 | h4
      · exact hne (e1.trans e2.symm)
      · exact p1 w h4 (e1 ▸ e)
      · exact p1 v h3 (e2 ▸ e.symm)
      · exact ih p2 h3 h4
  exact key nd (mem_mems.mpr hv) (mem_mems.mpr hw)
/-- sums go to sums -/
theorem com_put (L : GrpG h V els put back zero) (cm : ∀ a ∈ els, ∀ b ∈ els, put a b = put b a) : ∀ {gs : List (α × Nat)} {v w : List Int}, (∀ p ∈ gs, p.1 ∈ els ∧ OrdG put zero p.1 p.2) → OkE (rndG gs) v → OkE (rndG gs) w → comG put zero (putV (rndG gs) v w) gs = put (comG put zero v gs) (comG put zero w gs)
  | [], v, w, _, hv, hw => by
    unfold comG
    rw [List.zip_nil_right, List.zip_nil_right, List.zip_nil_right]
    exact (L.pz _ L.zeroE).symm
  | p :: gs, v, w, hg, hv, hw => by
    cases v with
    | nil => have := hv.len; simp [rndG] at this
    | cons i v =>
    cases w with
    | nil => have := hw.len; simp [rndG] at this
    | cons j w =>
      have hE : ∀ q ∈ p :: gs, q.1 ∈ els := fun q hq => (hg q hq).1
      have hE' : ∀ q ∈ gs, q.1 ∈ els := fun q hq => hE q (List.mem_cons_of_mem _ hq)
      obtain ⟨hp, o⟩ := hg p List.mem_cons_self
      obtain ⟨⟨i0, i1⟩, hv⟩ := OkE.cons.mp hv
      obtain ⟨⟨j0, j1⟩, hw⟩ := OkE.cons.mp hw
      have e : putV (rndG (p :: gs)) (i :: v) (j :: w) = ((i + j) % (p.2 : Int)) :: putV (rndG gs) v w := rfl
      rw [e, com_cons L _ _ hE, com_cons L _ _ hE, com_cons L _ _ hE, com_put L cm (fun q hq => hg q (List.mem_cons_of_mem _ hq)) hv hw]
      have : ((i + j) % (p.2 : Int)).toNat = (i.toNat + j.toNat) % p.2 := by
        have h1 := Int.emod_nonneg (i + j) (show (p.2 : Int) ≠ 0 by have := o.one; omega)
        have : (((i + j) % (p.2 : Int)).toNat : Int) = (((i.toNat + j.toNat) % p.2 : Nat) : Int) := by
          rw [Int.toNat_of_nonneg h1, Int.natCast_emod, Int.natCast_add, Int.toNat_of_nonneg i0, Int.toNat_of_nonneg j0]
        omega
      rw [this, ← L.pow_mod hp o, L.pow_add hp]
      exact L.swap4 cm (L.powE hp _) (L.powE hp _) (comE L hE' v) (comE L hE' w)
end
/-- the product of the common parts with a number -/
def gcdP (n : Nat) (es : List Nat) : Nat := (es.map fun e => Nat.gcd n e).foldr (· * ·) 1
theorem gcdP_cons (n e : Nat) (es : List Nat) : gcdP n (e :: es) = Nat.gcd n e * gcdP n es := rfl
theorem gcdP_append (n : Nat) : ∀ (es fs : List Nat), gcdP n (es ++ fs) = gcdP n es * gcdP n fs
  | [], fs => by simp [gcdP]
  | e :: es, fs => by rw [List.cons_append, gcdP_cons, gcdP_cons, gcdP_append n es fs, Nat.mul_assoc]
theorem gcdP_rev (n : Nat) : ∀ es : List Nat, gcdP n es.reverse = gcdP n es
  | [] => rfl
  | e :: es => by
    rw [List.reverse_cons, gcdP_append, gcdP_rev n es, gcdP_cons]
    simp [gcdP, Nat.mul_comm]
theorem gcdP_le {n : Nat} (h1 : 1 ≤ n) : ∀ {es : List Nat}, (∀ e ∈ es, 1 ≤ e) → gcdP n es ≤ es.foldr (· * ·) 1 ∧ 1 ≤ gcdP n es
  | [], _ => ⟨Nat.le_refl _, Nat.le_refl _⟩
  | e :: es, h => by
    obtain ⟨a, b⟩ := gcdP_le h1 (es := es) fun x hx => h x (List.mem_cons_of_mem _ hx)
    have he := h e List.mem_cons_self
    have g1 := Nat.gcd_le_right n (show 0 < e by omega)
    have g2 := Nat.gcd_pos_of_pos_left e (show 0 < n by omega)
    rw [gcdP_cons, List.foldr_cons]
    exact ⟨Nat.mul_le_mul g1 a, Nat.mul_pos g2 b⟩
theorem gcdP_all {n : Nat} : ∀ {es : List Nat}, (∀ e ∈ es, e ∣ n) → gcdP n es = es.foldr (· * ·) 1
  | [], _ => rfl
  | e :: es, h => by
    rw [gcdP_cons, List.foldr_cons, gcdP_all (es := es) fun x hx => h x (List.mem_cons_of_mem _ hx), Nat.gcd_eq_right (h e List.mem_cons_self)]
theorem gcdP_top {n e : Nat} {es : List Nat} (h1 : 1 ≤ n) (he : 1 ≤ e) (hp : ∀ x ∈ es, 1 ≤ x) (h : gcdP n (e :: es) = (e :: es).foldr (· * ·) 1) : e ∣ n := by
  rw [gcdP_cons, List.foldr_cons] at h
  obtain ⟨a, b⟩ := gcdP_le h1 hp
  have g1 := Nat.gcd_le_right n (show 0 < e by omega)
  have g : Nat.gcd n e = e := by
    refine Nat.le_antisymm g1 (Nat.le_of_not_lt fun hlt => ?_)
    have h2 := Nat.mul_le_mul_left (Nat.gcd n e) a
    have h3 := Nat.mul_lt_mul_of_pos_right hlt (Nat.lt_of_lt_of_le b a)
    omega
  exact g ▸ Nat.gcd_dvd_left n e
/-- what is told by the common parts is told by the numbers of which each divides the one ahead -/
theorem chain_uniq {P : Nat → Prop} : ∀ {es fs : List Nat}, es.Pairwise (fun a b => b ∣ a) → fs.Pairwise (fun a b => b ∣ a) → (∀ e ∈ es, 2 ≤ e ∧ P e) → (∀ f ∈ fs, 2 ≤ f ∧ P f) → (∀ n, 1 ≤ n → P n → gcdP n es = gcdP n fs) → es = fs
  | [], [], _, _, _, _, _ => rfl
  | [], f :: fs, _, _, _, h4, h => by
    obtain ⟨f2, fN⟩ := h4 f List.mem_cons_self
    have e := h f (by omega) fN
    rw [gcdP_cons, Nat.gcd_self] at e
    have := (gcdP_le (n := f) (by omega) (es := fs) fun x hx => by have := h4 x (List.mem_cons_of_mem _ hx); omega).2
    have := Nat.mul_le_mul f2 this
    simp [gcdP] at e this
    omega
  | f :: fs, [], _, _, h4, _, h => by
    obtain ⟨f2, fN⟩ := h4 f List.mem_cons_self
    have e := h f (by omega) fN
    rw [gcdP_cons, Nat.gcd_self] at e
    have := (gcdP_le (n := f) (by omega) (es := fs) fun x hx => by have := h4 x (List.mem_cons_of_mem _ hx); omega).2
    have := Nat.mul_le_mul f2 this
    simp [gcdP] at e this
    omega
  | e :: es, f :: fs, h1, h2, h3, h4, h => by
    obtain ⟨e2, eN⟩ := h3 e List.mem_cons_self
    obtain ⟨f2, fN⟩ := h4 f List.mem_cons_self
    obtain ⟨p1, p2⟩ := List.pairwise_cons.mp h1
    obtain ⟨q1, q2⟩ := List.pairwise_cons.mp h2
    have de : ∀ x ∈ e :: es, x ∣ e := fun x hx => by
      rcases List.mem_cons.mp hx with rfl | hx
      · exact Nat.dvd_refl _
      · exact p1 x hx
    have df : ∀ x ∈ f :: fs, x ∣ f := fun x hx => by
      rcases List.mem_cons.mp hx with rfl | hx
      · exact Nat.dvd_refl _
      · exact q1 x hx
    have oe : ∀ x ∈ e :: es, 1 ≤ x := fun x hx => by have := h3 x hx; omega
    have of : ∀ x ∈ f :: fs, 1 ≤ x := fun x hx => by have := h4 x hx; omega
    have a1 := gcdP_all de
    have a2 := gcdP_all df
    have b1 := h e (by omega) eN
    have b2 := h f (by omega) fN
    have c1 := (gcdP_le (n := e) (by omega) of).1
    have c2 := (gcdP_le (n := f) (by omega) oe).1
    have d1 : e ∣ f := gcdP_top (by omega) (by omega) (fun x hx => oe x (List.mem_cons_of_mem _ hx)) (by omega : gcdP f (e :: es) = _)
    have d2 : f ∣ e := gcdP_top (by omega) (by omega) (fun x hx => of x (List.mem_cons_of_mem _ hx)) (by omega : gcdP e (f :: fs) = _)
    have ef : e = f := Nat.dvd_antisymm d1 d2
    subst ef
    congr 1
    refine chain_uniq p2 q2 (fun x hx => h3 x (List.mem_cons_of_mem _ hx)) (fun x hx => h4 x (List.mem_cons_of_mem _ hx)) (fun n n1 nN => ?_)
    have := h n n1 nN
    rw [gcdP_cons, gcdP_cons] at this
    exact Nat.eq_of_mul_eq_mul_left (Nat.gcd_pos_of_pos_left e (by omega)) this
theorem filter_mult (m : Nat) (hm : 1 ≤ m) : ∀ d : Nat, ((List.range (m * d)).filter fun k => decide (m ∣ k)).length = d
  | 0 => rfl
  | d + 1 => by
    rw [Nat.mul_succ, List.range_add, List.filter_append, List.length_append, filter_mult m hm d, List.filter_map, List.length_map]
    congr 1
    obtain ⟨j, rfl⟩ : ∃ j, m = j + 1 := ⟨m - 1, by omega⟩
    have : ((List.range (j + 1)).filter ((fun k => decide (j + 1 ∣ k)) ∘ fun x => (j + 1) * d + x)) = [0] := by
      rw [List.range_succ_eq_map, List.filter_cons]
      simp only [Function.comp_apply, Nat.add_zero, Nat.dvd_mul_right, decide_true, ↓reduceIte]
      congr 1
      rw [List.filter_eq_nil_iff]
      intro k hk
      obtain ⟨i, hi, rfl⟩ := List.mem_map.mp hk
      have := List.mem_range.mp hi
      simp only [Function.comp_apply, decide_eq_true_eq]
      intro hd
      have := (Nat.dvd_add_right (Nat.dvd_mul_right (j + 1) d)).mp hd
      have := Nat.le_of_dvd (by omega) this
      omega
    rw [this]
    rfl
theorem filter_gcd (n e : Nat) (he : 1 ≤ e) : ((List.range e).filter fun k => decide (e ∣ n * k)).length = Nat.gcd n e := by
  have g := Nat.gcd_pos_of_pos_right n (show 0 < e by omega)
  obtain ⟨m, hm⟩ := Nat.gcd_dvd_right n e
  have h1 : 1 ≤ m := Nat.pos_of_ne_zero fun h0 => by rw [h0] at hm; omega
  have : (fun k => decide (e ∣ n * k)) = fun k => decide (m ∣ k) := by
    funext k
    rw [decide_eq_decide]
    obtain ⟨n', hn⟩ := Nat.gcd_dvd_left n e
    have co : Nat.Coprime m n' := by
      have := Nat.coprime_div_gcd_div_gcd (m := n) (n := e) g
      have e1 : n / Nat.gcd n e = n' := by conv => lhs; rw [hn]; rw [← hn]
                                           exact Nat.div_eq_of_eq_mul_right g hn
      have e2 : e / Nat.gcd n e = m := Nat.div_eq_of_eq_mul_right g hm
      rw [e1, e2] at this
      exact this.symm
    generalize Nat.gcd n e = d at *
    rw [hm, hn, Nat.mul_assoc, Nat.mul_dvd_mul_iff_left g]
    exact ⟨fun h => co.dvd_of_dvd_mul_left h, fun h => Nat.dvd_trans h (Nat.dvd_mul_left _ _)⟩
  rw [this]
  have := filter_mult m h1 (Nat.gcd n e)
  rwa [Nat.mul_comm, ← hm] at this
/-- the elements by rounds, the first place slowest -/
def memR : List Nat → List (List Int)
  | [] => [[]]
  | e :: es => (List.range e).flatMap fun i : Nat => (memR es).map fun v => (i : Int) :: v
theorem mem_memR : ∀ {es : List Nat} {v : List Int}, v ∈ memR es ↔ OkE (es.map fun e : Nat => (e : Int)) v
  | [], v => by
    constructor
    · intro h
      rw [List.mem_singleton.mp h]
      exact .nil
    · intro h
      have : v = [] := List.length_eq_zero_iff.mp h.len
      subst this
      exact List.mem_singleton.mpr rfl
  | e :: es, v => by
    show v ∈ (List.range e).flatMap _ ↔ _
    rw [List.mem_flatMap]
    constructor
    · rintro ⟨i, hi, hv⟩
      obtain ⟨w, hw, rfl⟩ := List.mem_map.mp hv
      have := List.mem_range.mp hi
      exact OkE.cons.mpr ⟨⟨by omega, by show (i : Int) < (e : Int); omega⟩, mem_memR.mp hw⟩
    · intro h
      cases v with
      | nil => have := h.len; simp at this
      | cons i v =>
        obtain ⟨⟨i0, i1⟩, hv⟩ := OkE.cons.mp h
        have i1 : i < (e : Int) := i1
        exact ⟨i.toNat, List.mem_range.mpr (by omega), List.mem_map.mpr ⟨v, mem_memR.mpr hv, by rw [Int.toNat_of_nonneg i0]⟩⟩
theorem memR_nodup : ∀ es : List Nat, (memR es).Nodup
  | [] => by simp [memR]
  | e :: es => by
    show ((List.range e).flatMap _).Nodup
    rw [List.nodup_iff_pairwise_ne, List.pairwise_flatMap]
    refine ⟨fun i _ => ?_, ?_⟩
    · rw [List.pairwise_map]
      exact (List.nodup_iff_pairwise_ne.mp (memR_nodup es)).imp fun hne e => hne (List.cons.inj e).2
    · refine List.Pairwise.imp (R := fun a b => a ≠ b) (fun {a b} hne x hx y hy e => hne ?_) (List.nodup_iff_pairwise_ne.mp List.nodup_range)
      obtain ⟨_, _, rfl⟩ := List.mem_map.mp hx
      obtain ⟨_, _, rfl⟩ := List.mem_map.mp hy
      have := (List.cons.inj e).1
      omega
theorem memR_perm (es : List Nat) : (mems (es.map fun e : Nat => (e : Int))).Perm (memR es) := (List.perm_ext_iff_of_nodup (mems_nodup _) (memR_nodup es)).mpr fun v => by rw [mem_mems, mem_memR]
/-- each place comes to the nought -/
def nullV (n : Nat) : List Nat → List Int → Bool
  | e :: es, i :: v => decide (e ∣ n * i.toNat) && nullV n es v
  | _, _ => true
theorem flat_filter_len {β γ : Type} {p : β → Bool} {q : γ → Bool} {f : β → γ → List Int} {r : List Int → Bool} (hr : ∀ b c, r (f b c) = (p b && q c)) (l : List γ) : ∀ xs : List β, ((xs.flatMap fun b => l.map (f b)).filter r).length = (xs.filter p).length * (l.filter q).length
  | [] => by simp
  | x :: xs => by
    rw [List.flatMap_cons, List.filter_append, List.length_append, flat_filter_len hr l xs, List.filter_map, List.length_map]
    have : (r ∘ f x) = fun c => p x && q c := funext fun c => hr x c
    rw [this, List.filter_cons]
    cases p x
    · simp
    · simp [Nat.add_mul, Nat.add_comm]
theorem null_len (n : Nat) : ∀ es : List Nat, (∀ e ∈ es, 1 ≤ e) → ((memR es).filter (nullV n es)).length = gcdP n es
  | [], _ => rfl
  | e :: es, h => by
    show (((List.range e).flatMap fun i : Nat => (memR es).map fun v => (i : Int) :: v).filter (nullV n (e :: es))).length = _
    rw [flat_filter_len (p := fun k => decide (e ∣ n * k)) (q := nullV n es) (fun b c => by simp [nullV]), filter_gcd n e (h e List.mem_cons_self), null_len n es fun x hx => h x (List.mem_cons_of_mem _ hx)]
    rfl
section
variable {α : Type} [DecidableEq α] {h : Nat} {V : α → D} {els : List α} {put : α → α → α} {back : α → α} {zero : α} {gs : List (α × Nat)}
/-- so many times, place by place -/
def nV (n : Nat) (gs : List (α × Nat)) (v : List Int) : List Int := (v.zip gs).map fun p => ((n * p.1.toNat % p.2.2 : Nat) : Int)
theorem nV_ok (n : Nat) : ∀ {gs : List (α × Nat)} {v : List Int}, (∀ p ∈ gs, 1 ≤ p.2) → OkE (rndG gs) v → OkE (rndG gs) (nV n gs v)
  | [], v, _, hv => by
    have : v = [] := List.length_eq_zero_iff.mp hv.len
    subst this
    exact .nil
  | p :: gs, [], _, hv => by have := hv.len; simp [rndG] at this
  | p :: gs, i :: v, h1, hv => by
    have := Nat.mod_lt (n * i.toNat) (h1 p List.mem_cons_self)
    exact OkE.cons.mpr ⟨⟨by show (0 : Int) ≤ ((n * i.toNat % p.2 : Nat) : Int); omega, by show ((n * i.toNat % p.2 : Nat) : Int) < (p.2 : Int); omega⟩, nV_ok n (fun q hq => h1 q (List.mem_cons_of_mem _ hq)) (OkE.cons.mp hv).2⟩
theorem com_pow (L : GrpG h V els put back zero) (cm : ∀ a ∈ els, ∀ b ∈ els, put a b = put b a) (n : Nat) : ∀ {gs : List (α × Nat)} {v : List Int}, (∀ p ∈ gs, p.1 ∈ els ∧ OrdG put zero p.1 p.2) → comG put zero (nV n gs v) gs = powG put zero n (comG put zero v gs)
  | [], v, _ => by
    unfold comG
    rw [List.zip_nil_right, List.zip_nil_right]
    exact (L.pow_zero n).symm
  | p :: gs, [], _ => (L.pow_zero n).symm
  | p :: gs, i :: v, hg => by
    have hE : ∀ q ∈ p :: gs, q.1 ∈ els := fun q hq => (hg q hq).1
    have hE' : ∀ q ∈ gs, q.1 ∈ els := fun q hq => hE q (List.mem_cons_of_mem _ hq)
    obtain ⟨hp, o⟩ := hg p List.mem_cons_self
    show comG put zero (((n * i.toNat % p.2 : Nat) : Int) :: nV n gs v) (p :: gs) = _
    rw [com_cons L _ _ hE, com_cons L _ _ hE, com_pow L cm n (fun q hq => hg q (List.mem_cons_of_mem _ hq)), Int.toNat_natCast, ← L.pow_mod hp o, L.pow_put cm (L.powE hp _) (comE L hE' v), Nat.mul_comm, L.pow_mul hp]
theorem nV_null (n : Nat) : ∀ {gs : List (α × Nat)} {v : List Int}, OkE (rndG gs) v → (nV n gs v = (rndG gs).map (fun _ => 0) ↔ nullV n (gs.map (·.2)) v = true)
  | [], v, hv => by
    have : v = [] := List.length_eq_zero_iff.mp hv.len
    subst this
    simp [nV, rndG, nullV]
  | p :: gs, [], hv => by have := hv.len; simp [rndG] at this
  | p :: gs, i :: v, hv => by
    have := nV_null n (gs := gs) (OkE.cons.mp hv).2
    show (((n * i.toNat % p.2 : Nat) : Int) :: nV n gs v = 0 :: (rndG gs).map (fun _ => 0)) ↔ (decide (p.2 ∣ n * i.toNat) && nullV n (gs.map (·.2)) v) = true
    rw [List.cons.injEq, this, Bool.and_eq_true, decide_eq_true_eq, Nat.dvd_iff_mod_eq_zero]
    refine and_congr ⟨fun h => by omega, fun h => by omega⟩ Iff.rfl
theorem com_zero (L : GrpG h V els put back zero) : ∀ {gs : List (α × Nat)}, (∀ p ∈ gs, p.1 ∈ els) → comG put zero ((rndG gs).map fun _ => 0) gs = zero
  | [], _ => rfl
  | p :: gs, hE => by
    show comG put zero (0 :: (rndG gs).map fun _ => 0) (p :: gs) = zero
    rw [com_cons L _ _ hE, com_zero L fun q hq => hE q (List.mem_cons_of_mem _ hq)]
    exact L.pz _ L.zeroE
theorem zero_okG : ∀ {gs : List (α × Nat)}, (∀ p ∈ gs, 1 ≤ p.2) → OkE (rndG gs) ((rndG gs).map fun _ => 0)
  | [], _ => .nil
  | p :: gs, h => OkE.cons.mpr ⟨⟨Int.le_refl _, by have := h p List.mem_cons_self; show (0 : Int) < (p.2 : Int); omega⟩, zero_okG fun q hq => h q (List.mem_cons_of_mem _ hq)⟩
/-- how many elements a number takes to the nought -/
def cntG (els : List α) (put : α → α → α) (zero : α) (n : Nat) : Nat := (els.filter fun x => decide (powG put zero n x = zero)).length
theorem PlainG.perm (L : GrpG h V els put back zero) (P : PlainG els put zero gs) : ((mems (rndG gs)).map fun v => comG put zero v gs).Perm els :=
  (List.perm_ext_iff_of_nodup (P.nd L) L.nd).mpr fun c => ⟨fun hc => by
    obtain ⟨v, _, rfl⟩ := List.mem_map.mp hc
    exact comE L (fun p hp => (P.g p hp).1) v, fun hc => by
    obtain ⟨v, hv, e⟩ := P.cov c hc
    exact List.mem_map.mpr ⟨v, mem_mems.mpr hv, e⟩⟩
theorem PlainG.count (L : GrpG h V els put back zero) (cm : ∀ a ∈ els, ∀ b ∈ els, put a b = put b a) (P : PlainG els put zero gs) (n : Nat) : cntG els put zero n = gcdP n (gs.map (·.2)) := by
  have g1 : ∀ p ∈ gs, 1 ≤ p.2 := fun p hp => by have := (P.g p hp).2.2; omega
  have gE : ∀ p ∈ gs, p.1 ∈ els := fun p hp => (P.g p hp).1
  unfold cntG
  rw [((P.perm L).filter _).length_eq.symm, List.filter_map, List.length_map]
  have e : rndG gs = (gs.map (·.2)).map fun e : Nat => (e : Int) := by simp [rndG]
  rw [← null_len n (gs.map (·.2)) (fun e he => by obtain ⟨p, hp, rfl⟩ := List.mem_map.mp he; exact g1 p hp), ← ((memR_perm (gs.map (·.2))).filter _).length_eq, ← e]
  congr 1
  refine List.filter_congr fun v hv => ?_
  have hv := mem_mems.mp hv
  simp only [Function.comp_apply]
  rw [Bool.eq_iff_iff, decide_eq_true_eq, ← nV_null n hv, ← com_pow L cm n fun p hp => ⟨(P.g p hp).1, (P.g p hp).2.1⟩]
  constructor
  · intro h
    exact P.inj L (nV_ok n g1 hv) (zero_okG g1) (h.trans (com_zero L gE).symm)
  · intro h
    rw [h, com_zero L gE]
end
theorem any_blP {α : Type} (f : α → Bool) (l : List α) : anyT (.lst (l.map fun a => D.bl (f a))) = .ok (.bl (l.any f)) := by
  have tt : ∀ l : List α, trsD (l.map fun a => D.bl (f a)) = some (l.map f) := fun l => by
    induction l with
    | nil => rfl
    | cons y ys ih => rw [List.map_cons, trsD, ih]; rfl
  unfold anyT
  simp only [tt]
  rw [List.any_map]
  rfl
theorem ix_lastP (xs : List D) (d : D) : ixD (.lst (xs ++ [d])) (.int (-1)) = .ok d := by
  have z : atI (xs ++ [d]) (-1) = some d := by
    unfold atI ixN
    have hl : (xs ++ [d]).length = xs.length + 1 := by simp
    rw [hl, if_neg (by omega), if_pos (by omega)]
    show (xs ++ [d])[((-1 : Int) + ((xs.length + 1 : Nat) : Int)).toNat]? = _
    have e : ((-1 : Int) + ((xs.length + 1 : Nat) : Int)).toNat = xs.length := by omega
    rw [e, List.getElem?_append_right (by simp)]
    simp
  rw [ixD_lst, z]
theorem cut_lastP (xs : List D) : cutD xs none (some (-1)) = xs.dropLast := by
  have e : HT.sIx xs.length xs.length (some (-1)) = xs.length - 1 := by
    show (if (-1 : Int) < 0 then ((-1 : Int) + (xs.length : Int)).toNat else min (-1 : Int).toNat xs.length) = _
    rw [if_pos (by decide)]
    omega
  unfold cutD
  rw [e, show HT.sIx xs.length 0 none = 0 from rfl, List.drop_zero, List.dropLast_eq_take, Nat.sub_zero]
theorem rowG_succ {α : Type} {put : α → α → α} {zero : α} (x : α) (e : Nat) : rowG put zero x (e + 1) = rowG put zero x e ++ [powG put zero (e + 1) x] := by simp [rowG, List.range_succ]
theorem rowG_at {α : Type} {V : α → D} {put : α → α → α} {zero : α} {x : α} {e : Nat} (o : OrdG put zero x e) {n : Int} (h0 : 0 ≤ n) (h1 : n < e) : ixD (.lst ((rowG put zero x e).map V)) (.int (n - 1)) = .ok (V (powG put zero n.toNat x)) := by
  by_cases e0 : n = 0
  · subst e0
    have h1 := o.one
    obtain ⟨k, rfl⟩ : ∃ k, e = k + 1 := ⟨e - 1, by omega⟩
    rw [rowG_succ, List.map_append, List.map_cons, List.map_nil]
    have := ix_lastP ((rowG put zero x k).map V) (V (powG put zero (k + 1) x))
    rw [o.z] at this ⊢
    exact this
  · have e1 : n - 1 = ((n.toNat - 1 : Nat) : Int) := by omega
    have hl : n.toNat - 1 < ((rowG put zero x e).map V).length := by simp [rowG]; omega
    rw [e1, ixD_lst, atI_nat _ _ hl, List.getElem?_map]
    unfold rowG
    rw [List.getElem?_map, List.getElem?_range (by omega)]
    show Res.ok (V (powG put zero (n.toNat - 1 + 1) x)) = _
    rw [show n.toNat - 1 + 1 = n.toNat by omega]
theorem negP : negD (.int 1) = .ok (.int (-1)) := rfl
section
variable {α : Type} [DecidableEq α] {h : Nat} {V : α → D} {Q : α → NestedKey} {els : List α} {put : α → α → α} {back : α → α} {zero : α} {G : D}
/-- an element's times -/
theorem times_ofP (L : GrpG h V els put back zero) (h64 : h ≤ 64) (pf : PutF0 V els put G) (zf : ZeroF0 V zero G) {x : α} (hx : x ∈ els) {e : Nat} (o : OrdG put zero x e) : d_times_of [G, V x] = .ok (.lst ((rowG put zero x e).map V)) := by
  obtain ⟨f, f1, f2⟩ := pf
  obtain ⟨q, q1, q2⟩ := zf
  have hm : e ≤ 144 := by
    obtain ⟨k, hk, ok⟩ := L.ord_ex hx
    have := L.len
    rw [OrdG.uniq o ok]
    omega
  have neV := L.neV h64
  have pE := fun n => L.powE hx n
  have lst : ∀ j, (rowG put zero x (j + 1)).map V = (rowG put zero x j).map V ++ [V (powG put zero (j + 1) x)] := fun j => by rw [rowG_succ, List.map_append]; rfl
  have rl : ∀ j, ((rowG put zero x j).map V).length = j := fun j => by rw [List.length_map, rowG_len]
  obtain ⟨r', loop, rfl⟩ := loopD_down (c := times_of_w1c) (b := times_of_w1) (fun k r => ∃ j : Nat, j + 1 + k = e ∧ r = [.sh G, .sh (V x), .ow .flat (.lst ((rowG put zero x (j + 1)).map V))]) (fun r => r = [.sh G, .sh (V x), .ow .flat (.lst ((rowG put zero x e).map V))]) (by
    rintro k r ⟨j, hj, rfl⟩
    have il := ix_lastP ((rowG put zero x j).map V) (V (powG put zero (j + 1) x))
    by_cases e1 : j + 1 = e
    · left
      have ne := neV (powG put zero (j + 1) x) zero
      rw [decide_eq_true (by rw [e1]; exact o.z)] at ne
      refine ⟨?_, by rw [e1]⟩
      rw [lst]
      generalize (rowG put zero x j).map V ++ [V (powG put zero (j + 1) x)] = R at *
      generalize V (powG put zero (j + 1) x) = A at *
      generalize V zero = Z at *
      simp [times_of_w1c, q1, q2, ne, negP, il, -ixD_lst]
    · right
      have ne := neV (powG put zero (j + 1) x) zero
      rw [decide_eq_false (o.le (j + 1) (by omega) (by omega))] at ne
      have p := f2 _ (pE (j + 1)) _ hx
      have rl1 := rl (j + 1)
      refine ⟨k - 1, [.sh G, .sh (V x), .ow .flat (.lst ((rowG put zero x (j + 1 + 1)).map V))], by omega, ?_, ?_, j + 1, by omega, rfl⟩
      · rw [lst]
        generalize (rowG put zero x j).map V ++ [V (powG put zero (j + 1) x)] = R at *
        generalize V (powG put zero (j + 1) x) = A at *
        generalize V zero = Z at *
        simp [times_of_w1c, q1, q2, ne, negP, il, -ixD_lst]
      · rw [lst (j + 1)]
        show times_of_w1 _ = Oc.nx [_, _, .ow .flat (.lst (_ ++ [V (put (powG put zero (j + 1) x) x)]))]
        rw [← lst j] at il
        have hl : ((rowG put zero x (j + 1)).map V).length < lim := by rw [rl1]; unfold lim; omega
        generalize (rowG put zero x (j + 1)).map V = R at *
        generalize V (put (powG put zero (j + 1) x) x) = B at *
        generalize V (powG put zero (j + 1) x) = A at *
        simp [times_of_w1, appG, ownL, q1, q2, f1, p, negP, il, hl, -ixD_lst]) (k := e - 1) (r := [.sh G, .sh (V x), .ow .flat (.lst [V x])]) ⟨0, by have := o.one; omega, by
          show _ = [_, _, Slot.ow .flat (.lst [V (put zero x)])]
          rw [L.zp x hx]⟩ (by omega)
  refine runD_rt rfl ?_
  simp only [startD, N_times_of, List.length_cons, List.length_nil, List.map_cons, List.map_nil, Nat.reduceAdd, Nat.reduceSub, Nat.zero_add, List.replicate, List.cons_append, List.nil_append]
  generalize (rowG put zero x e).map V = R at *
  generalize V x = X at *
  have l1 : 1 ≤ lim := by decide
  simp [e_times_of, loop, freeze, lstD, l1]
/-- what comes by C and a row -/
theorem widenedP (L : GrpG h V els put back zero) (K : KeyE V Q) (pf : PutF0 V els put G) {C row : List α} (hC : ∀ c ∈ C, c ∈ els) (hr : ∀ x ∈ row, x ∈ els) (nd : (extC put C row).Nodup) :
    d_widened [G, dicF V D.bl C (fun _ => true), .lst (row.map V)] = .ok (dicF V D.bl (extC put C row) fun _ => true) := by
  obtain ⟨f, f1, f2⟩ := pf
  have l144 : (extC put C row).length ≤ 144 := Nat.le_trans (nodup_le nd fun w hw => by
    unfold extC at hw
    obtain ⟨c, hc, hw⟩ := List.mem_flatMap.mp hw
    obtain ⟨r, hr', rfl⟩ := List.mem_map.mp hw
    exact L.putE _ (hC c hc) _ (hr r hr')) L.len
  obtain ⟨r2, e2, a, b, rfl⟩ := forD_row (f := widened_l2) (pre0 := C) V (fun pre r => ∃ a b, r = [.sh G, .sh (dicF V D.bl C fun _ => true), .sh (.lst (row.map V)), .ow .flat (dicF V D.bl (extC put pre row) fun _ => true), a, b]) (ds := C) (pre := []) (r := [.sh G, .sh (dicF V D.bl C fun _ => true), .sh (.lst (row.map V)), .ow .flat (.dic [] []), .un, .un]) (fun pre c hpre r ⟨a, b, hr0⟩ => by
    subst hr0
    have hcC : c ∈ C := hpre.subset (by simp)
    have hc := hC c hcC
    have sub : extC put (pre ++ [c]) row <+: extC put C row := by
      obtain ⟨t, ht⟩ := hpre
      rw [← ht]
      exact ⟨extC put t row, by simp [extC, List.flatMap_append]⟩
    have ex1 : extC put (pre ++ [c]) row = extC put pre row ++ row.map (put c) := by simp [extC]
    have nd1 : (extC put pre row ++ row.map (put c)).Nodup := ex1 ▸ nd.sublist sub.sublist
    have ln1 : (extC put pre row ++ row.map (put c)).length ≤ 144 := ex1 ▸ Nat.le_trans sub.length_le l144
    obtain ⟨r3, e3, b', rfl⟩ := forD_row (f := widened_l1) (pre0 := row) V (fun p2 r => ∃ b, r = [.sh G, .sh (dicF V D.bl C fun _ => true), .sh (.lst (row.map V)), .ow .flat (dicF V D.bl (extC put pre row ++ p2.map (put c)) fun _ => true), .sh (V c), b]) (ds := row) (pre := []) (r := [.sh G, .sh (dicF V D.bl C fun _ => true), .sh (.lst (row.map V)), .ow .flat (dicF V D.bl (extC put pre row) fun _ => true), .sh (V c), b]) (fun p2 w hp2 r ⟨b, hr1⟩ => by
      subst hr1
      have hw : w ∈ row := hp2.subset (by simp)
      have p := f2 c hc w (hr w hw)
      obtain ⟨t2, ht2⟩ := hp2
      have fresh : put c w ∉ ((extC put pre row ++ p2.map (put c)).map fun x => (x, true)).map (·.1) := by
        rw [List.map_map]
        have : ((fun x : α × Bool => x.1) ∘ fun x => (x, true)) = id := rfl
        rw [this, List.map_id]
        have e2 : row.map (put c) = p2.map (put c) ++ ([put c w] ++ t2.map (put c)) := by rw [← ht2]; simp
        rw [e2, ← List.append_assoc] at nd1
        intro hin
        exact (List.nodup_append.mp nd1).2.2 _ hin _ (by simp) rfl
      have hl : ((extC put pre row ++ p2.map (put c)).map fun x => (x, true)).length < lim := by
        rw [List.length_map]
        have : (extC put pre row ++ p2.map (put c)).length ≤ (extC put pre row ++ row.map (put c)).length := by
          rw [← ht2]; simp only [List.length_append, List.length_map]; omega
        unfold lim
        omega
      refine ⟨_, ?_, .sh (V w), rfl⟩
      have st := setG_A K (V := D.bl) (i := 3) (fv := fun _ => .ok (.bl true)) (fi := fun r => (getS 0 r) >>= fun d => mthD mt_put d >>= fun g => ((getS 4 r) >>= fun d => ((getS 5 r) >>= fun d => (.ok []) >>= fun ds => .ok (d :: ds)) >>= fun ds => .ok (d :: ds)) >>= g) (r := [.sh G, .sh (dicF V D.bl C fun _ => true), .sh (.lst (row.map V)), .ow .flat (dicA V D.bl ((extC put pre row ++ p2.map (put c)).map fun x => (x, true))), .sh (V c), .sh (V w)]) (a := put c w) (b := true) rfl rfl (by
        generalize dicF V D.bl C (fun _ => true) = CC
        generalize dicA V D.bl _ = CD
        generalize D.lst (row.map V) = RR
        generalize V (put c w) = PP at *
        generalize V c = A at *
        generalize V w = B at *
        simp [f1, p]) hl
      rw [setA_new true fresh] at st
      have fin : ((extC put pre row ++ p2.map (put c)).map fun x => (x, true)) ++ [(put c w, true)] = (extC put pre row ++ (p2 ++ [w]).map (put c)).map fun x => (x, true) := by simp
      rw [fin] at st
      refine Eq.trans ?_ st
      rfl) (by simp) ⟨b, by simp⟩
    refine ⟨_, ?_, .sh (V c), b', rfl⟩
    rw [ex1]
    rw [List.nil_append] at e3
    generalize dicF V D.bl (extC put pre row ++ row.map (put c)) (fun _ => true) = R1 at *
    generalize dicF V D.bl (extC put pre row) (fun _ => true) = R0 at *
    generalize dicF V D.bl C (fun _ => true) = CC at *
    generalize row.map V = RR at *
    generalize V c = A at *
    simp [widened_l2, nameG, e3]) (by simp) ⟨.un, .un, rfl⟩
  refine runD_rt rfl ?_
  simp only [startD, N_widened, List.length_cons, List.length_nil, List.map_cons, List.map_nil, Nat.reduceAdd, Nat.reduceSub, Nat.zero_add, List.replicate, List.cons_append, List.nil_append]
  have it : itemsD (dicF V D.bl C fun _ => true) = .ok (C.map V) := by
    show Res.ok _ = _
    rw [List.map_map]
    rfl
  rw [List.nil_append] at e2
  generalize dicF V D.bl (extC put C row) (fun _ => true) = R1 at *
  generalize dicF V D.bl C (fun _ => true) = CC at *
  generalize row.map V = RR at *
  generalize C.map V = CM at *
  simp [e_widened, it, e2, freeze]
end
theorem foldl_mul : ∀ (l : List Int) (a b : Int), l.foldl (· * ·) (a * b) = a * l.foldl (· * ·) b
  | [], _, _ => rfl
  | c :: l, a, b => by rw [List.foldl_cons, List.foldl_cons, Int.mul_assoc, foldl_mul l]
theorem foldl_mul1 (c : Int) (l : List Int) : (c :: l).foldl (· * ·) 1 = c * l.foldl (· * ·) 1 := by
  rw [List.foldl_cons, Int.one_mul]
  have := foldl_mul l c 1
  rwa [Int.mul_one] at this
theorem prod_two : ∀ {rs : List Int}, (∀ n ∈ rs, 2 ≤ n) → (2 : Int) ^ rs.length ≤ rs.foldl (· * ·) 1 ∧ ∀ n ∈ rs, n ≤ rs.foldl (· * ·) 1
  | [], _ => ⟨by decide, fun _ h => nomatch h⟩
  | c :: rs, h => by
    obtain ⟨a, b⟩ := prod_two (rs := rs) fun n hn => h n (List.mem_cons_of_mem _ hn)
    have hc := h c List.mem_cons_self
    have p1 : (0 : Int) < 2 ^ rs.length := Int.pow_pos (by decide)
    rw [foldl_mul1]
    have e1 : (2 : Int) ^ (c :: rs).length = 2 * 2 ^ rs.length := by rw [List.length_cons, Int.pow_succ, Int.mul_comm]
    generalize rs.foldl (· * ·) 1 = P at *
    generalize (2 : Int) ^ rs.length = T at *
    have m1 : 2 * P ≤ c * P := Int.mul_le_mul_of_nonneg_right hc (by omega)
    have m2 : c * 1 ≤ c * P := Int.mul_le_mul_of_nonneg_left (by omega) (by omega)
    refine ⟨by rw [e1]; omega, fun n hn => ?_⟩
    rcases List.mem_cons.mp hn with rfl | hn
    · omega
    · have := b n hn
      omega
theorem okG_prod {rs : List Int} (h : ∀ n ∈ rs, 2 ≤ n) (p : rs.foldl (· * ·) 1 ≤ 144) : OkG rs := by
  obtain ⟨a, b⟩ := prod_two h
  refine ⟨⟨h, Nat.le_of_not_lt fun hl => ?_⟩, fun n hn => Int.le_trans (b n hn) p, p⟩
  have : (2 : Int) ^ 8 ≤ 2 ^ rs.length := by
    obtain ⟨k, hk⟩ : ∃ k, rs.length = 8 + k := ⟨rs.length - 8, by omega⟩
    rw [hk, Int.pow_add]
    have : (0 : Int) < 2 ^ k := Int.pow_pos (by decide)
    generalize (2 : Int) ^ k = T at *
    omega
  have e : (2 : Int) ^ 8 = 256 := by decide
  omega
section
variable {α : Type} [DecidableEq α] {h : Nat} {V : α → D} {els : List α} {put : α → α → α} {back : α → α} {zero : α} {gs : List (α × Nat)}
theorem PlainG.two (P : PlainG els put zero gs) : ∀ n ∈ rndG gs, 2 ≤ n := fun n hn => by
  obtain ⟨p, hp, rfl⟩ := List.mem_map.mp hn
  have := (P.g p hp).2.2
  show (2 : Int) ≤ (p.2 : Int)
  omega
theorem PlainG.okG (L : GrpG h V els put back zero) (P : PlainG els put zero gs) : OkG (rndG gs) := by
  refine okG_prod P.two ?_
  have := mems_len (rs := rndG gs) (rnd_pos gs)
  rw [← P.len] at this
  rw [← this]
  have := L.len
  omega
theorem bestG_snoc (C : List α) (rows : List (List α)) (row : List α) : bestG C zero (rows ++ [row]) = if row.length > (bestG C zero rows).length ∧ (∀ x ∈ row.dropLast, x ∉ C) then row else bestG C zero rows := by
  unfold bestG
  rw [List.foldl_append]
  rfl
end
/-- a row of elements as a list -/
def rowD {α : Type} (V : α → D) (row : List α) : D := .lst (row.map V)
section
variable {α : Type} [DecidableEq α] {h : Nat} {V : α → D} {Q : α → NestedKey} {els : List α} {put : α → α → α} {back : α → α} {zero : α} {G : D}
/-- a row looked at -/
theorem row_turnP (K : KeyE V Q) {C b w : List α} {Z R F : D} {s6 : Slot} (lw : w.length ≤ 144) : parts_of_l3 (rowD V w) [.sh G, .sh Z, .sh (dicF V D.bl C fun _ => true), .sh R, .ow .flat F, .sh (rowD V b), s6, .un] =
    .nx [.sh G, .sh Z, .sh (dicF V D.bl C fun _ => true), .sh R, .ow .flat F, .sh (rowD V (if w.length > b.length ∧ (∀ x ∈ w.dropLast, x ∉ C) then w else b)), .sh (rowD V w), .un] := by
  have c2 : ∀ ds : List α, parts_of_c2 [.sh G, .sh Z, .sh (dicF V D.bl C fun _ => true), .sh R, .ow .flat F, .sh (rowD V b), .sh (rowD V w), .un] (ds.map V) = .ok (ds.map fun x => .bl (decide (x ∈ C))) := fun ds => by
    unfold parts_of_c2
    refine lcD_one V (fun x => .bl (decide (x ∈ C))) fun x _ => ⟨rfl, ?_⟩
    have := inD_A K (V := D.bl) (C.map fun x => (x, true)) x
    rw [hasA_map] at this
    have this : inD (V x) (dicF V D.bl C fun _ => true) = _ := this
    generalize dicF V D.bl C (fun _ => true) = CC at *
    generalize V x = A at *
    simp [wipeR, this]
  have l1 : lenD (rowD V w) = .ok (.int (w.length : Nat)) := by show Res.ok (D.int ((w.map V).length : Nat)) = _; rw [List.length_map]
  have l2 : lenD (rowD V b) = .ok (.int (b.length : Nat)) := by show Res.ok (D.int ((b.map V).length : Nat)) = _; rw [List.length_map]
  have sl : sliceD (rowD V w) none (some (-1)) = .ok (rowD V w.dropLast) := by
    show Res.ok (D.lst (cutD (w.map V) none (some (-1)))) = _
    rw [cut_lastP, ← List.map_dropLast]
    rfl
  have it : itemsD (rowD V w.dropLast) = .ok (w.dropLast.map V) := rfl
  have c2' := c2 w.dropLast
  have an := any_blP (fun x => decide (x ∈ C)) w.dropLast
  have hl : (w.dropLast.map fun x => D.bl (decide (x ∈ C))).length ≤ lim := by rw [List.length_map, List.length_dropLast]; unfold lim; omega
  have iff : (w.dropLast.any fun x => decide (x ∈ C)) = !decide (∀ x ∈ w.dropLast, x ∉ C) := by
    rw [Bool.eq_iff_iff, List.any_eq_true, Bool.not_eq_true', decide_eq_false_iff_not]
    constructor
    · rintro ⟨x, hx, hc⟩ hn
      exact hn x hx (of_decide_eq_true hc)
    · intro hn
      refine Classical.byContradiction fun hc => hn fun x hx hin => hc ⟨x, hx, decide_eq_true hin⟩
  rw [iff] at an
  have fin : ∀ B : D, (w.length > b.length ∧ (∀ x ∈ w.dropLast, x ∉ C) → B = rowD V w) → (¬ (w.length > b.length ∧ ∀ x ∈ w.dropLast, x ∉ C) → B = rowD V b) → B = rowD V (if w.length > b.length ∧ (∀ x ∈ w.dropLast, x ∉ C) then w else b) := fun B h1 h2 => by
    split
    · rename_i h; exact h1 h
    · rename_i h; exact h2 h
  obtain ⟨B, hB, hB1, hB2⟩ : ∃ B : D, B = rowD V (if w.length > b.length ∧ (∀ x ∈ w.dropLast, x ∉ C) then w else b) ∧ (w.length > b.length ∧ (∀ x ∈ w.dropLast, x ∉ C) → B = rowD V w) ∧ (¬ (w.length > b.length ∧ ∀ x ∈ w.dropLast, x ∉ C) → B = rowD V b) := ⟨_, rfl, fun h => by rw [if_pos h], fun h => by rw [if_neg h]⟩
  rw [← hB]
  clear hB fin iff c2
  generalize dicF V D.bl C (fun _ => true) = CC at *
  generalize (w.dropLast.map fun x => D.bl (decide (x ∈ C))) = BL at *
  generalize w.dropLast.map V = WL at *
  generalize rowD V w.dropLast = WD at *
  generalize rowD V b = BD at *
  generalize rowD V w = W at *
  by_cases g1 : w.length > b.length
  · have g1' : decide ((w.length : Int) > (b.length : Int)) = true := decide_eq_true (by omega)
    by_cases g2 : ∀ x ∈ w.dropLast, x ∉ C
    · rw [hB1 ⟨g1, g2⟩]
      rw [decide_eq_true g2] at an
      simp [parts_of_l3, nameG, l1, l2, g1', negP, sl, it, c2', lstD, hl, an, g1]
    · rw [hB2 fun z => g2 z.2]
      rw [decide_eq_false g2] at an
      simp [parts_of_l3, nameG, l1, l2, g1', negP, sl, it, c2', lstD, hl, an, g1]
  · rw [hB2 fun z => g1 z.1]
    have g1' : decide ((w.length : Int) > (b.length : Int)) = false := decide_eq_false (by omega)
    simp [parts_of_l3, nameG, l1, l2, g1', g1]
/-- the parts, found one after the other -/
theorem partsP (L : GrpG h V els put back zero) (h64 : h ≤ 64) (K : KeyE V Q) (cm : ∀ a ∈ els, ∀ b ∈ els, put a b = put b a) (pf : PutF0 V els put G) (zf : ZeroF0 V zero G) (mf : MemF0 V els G) : ∃ gs, PlainG els put zero gs ∧ d_parts_of [G] = .ok (.lst ((gs.map fun p => rowD V (rowG put zero p.1 p.2)).reverse)) := by
  have tm := fun {x : α} (hx : x ∈ els) {e : Nat} o => times_ofP L h64 pf zf hx (e := e) o
  have wd := fun {C row : List α} a b c => widenedP (C := C) (row := row) L K pf a b c
  obtain ⟨q, q1, q2⟩ := zf
  obtain ⟨m, m1, m2⟩ := mf
  have l144 := L.len
  have lr : ∀ x ∈ els, (rowN els put zero x).length ≤ 144 := fun x hx => by
    have o := L.ordN hx
    obtain ⟨k, hk, ok⟩ := L.ord_ex hx
    unfold rowN
    rw [rowG_len, OrdG.uniq o ok]
    omega
  have c1 : parts_of_c1 [.sh G, .sh (V zero), .sh (dicF V D.bl [zero] fun _ => true), .un, .un, .un, .un, .un] (els.map V) = .ok (els.map fun x => rowD V (rowN els put zero x)) := by
    unfold parts_of_c1
    refine lcD_one V (fun x => rowD V (rowN els put zero x)) fun x hx => ⟨rfl, ?_⟩
    have := tm hx (L.ordN hx)
    show (_ : Res D) = .ok (.lst ((rowN els put zero x).map V))
    unfold rowN
    generalize dicF V D.bl [zero] (fun _ => true) = CC at *
    generalize (rowG put zero x (ordNN els put zero x)).map V = RR at *
    generalize V x = A at *
    generalize V zero = Z at *
    simp [wipeR, this]
  have lrows : (els.map fun x => rowD V (rowN els put zero x)).length = els.length := List.length_map _
  obtain ⟨r', loop, gs, P, s2, s5, s6, rfl⟩ := loopD_down (c := parts_of_w4c) (b := parts_of_w4) (fun k r => ∃ C gs s5 s6, PartsI els put back zero C gs ∧ els.length ≤ C.length + k ∧ r = [.sh G, .sh (V zero), .sh (dicF V D.bl C fun _ => true), .sh (.lst (els.map fun x => rowD V (rowN els put zero x))), .ow .flat (.lst ((gs.map fun p => rowD V (rowG put zero p.1 p.2)).reverse)), s5, s6, .un])
    (fun r => ∃ gs, PlainG els put zero gs ∧ ∃ s2 s5 s6, r = [.sh G, .sh (V zero), s2, .sh (.lst (els.map fun x => rowD V (rowN els put zero x))), .ow .flat (.lst ((gs.map fun p => rowD V (rowG put zero p.1 p.2)).reverse)), s5, s6, .un]) (by
    rintro k r ⟨C, gs, s5, s6, I, hk, rfl⟩
    have ld : lenD (dicF V D.bl C fun _ => true) = .ok (.int (C.length : Nat)) := by rw [lenD_A, List.length_map]
    have ll : lenD (.lst (els.map fun x => rowD V (rowN els put zero x))) = .ok (.int (els.length : Nat)) := by show Res.ok (D.int (_ : Nat)) = _; rw [lrows]
    by_cases lt : C.length < els.length
    · right
      obtain ⟨x, hx, e, e2, bst, o, nd, grow, I2⟩ := I.step L cm lt
      obtain ⟨r2, for1, s6', rfl⟩ := forD_row (f := parts_of_l3) (pre0 := els) (fun x => rowD V (rowN els put zero x)) (fun pre r => ∃ s6, r = [.sh G, .sh (V zero), .sh (dicF V D.bl C fun _ => true), .sh (.lst (els.map fun x => rowD V (rowN els put zero x))), .ow .flat (.lst ((gs.map fun p => rowD V (rowG put zero p.1 p.2)).reverse)), .sh (rowD V (bestG C zero (pre.map (rowN els put zero)))), s6, .un]) (ds := els) (pre := []) (r := [.sh G, .sh (V zero), .sh (dicF V D.bl C fun _ => true), .sh (.lst (els.map fun x => rowD V (rowN els put zero x))), .ow .flat (.lst ((gs.map fun p => rowD V (rowG put zero p.1 p.2)).reverse)), .sh (rowD V [zero]), s6, .un]) (fun pre x hp r ⟨s6, hr⟩ => by
        subst hr
        have hx : x ∈ els := hp.subset (by simp)
        refine ⟨_, row_turnP K (lr x hx), .sh (rowD V (rowN els put zero x)), ?_⟩
        rw [List.map_append, List.map_cons, List.map_nil, bestG_snoc]) (by simp) ⟨s6, rfl⟩
      refine ⟨k - 1, [.sh G, .sh (V zero), .sh (dicF V D.bl (extC put C (rowG put zero x e)) fun _ => true), .sh (.lst (els.map fun x => rowD V (rowN els put zero x))), .ow .flat (.lst ((((x, e) :: gs).map fun p => rowD V (rowG put zero p.1 p.2)).reverse)), .sh (rowD V (rowG put zero x e)), s6', .un], by omega, ?_, ?_, _, _, _, _, I2, by omega, rfl⟩
      · have g1' : decide ((C.length : Int) < (els.length : Int)) = true := decide_eq_true (by omega)
        generalize dicF V D.bl C (fun _ => true) = CC at *
        generalize D.lst (els.map fun x => rowD V (rowN els put zero x)) = RR at *
        generalize D.lst ((gs.map fun p => rowD V (rowG put zero p.1 p.2)).reverse) = FF at *
        generalize V zero = Z at *
        simp [parts_of_w4c, ld, ll, lt]
      · rw [List.nil_append, bst] at for1
        have w1 := wd I.sub.sub (row := rowG put zero x e) (fun w hw => by
          obtain ⟨k, _, _, rfl⟩ := mem_rowG.mp hw
          exact L.powE hx k) nd
        have hl : ((gs.map fun p => rowD V (rowG put zero p.1 p.2)).reverse).length < lim := by
          rw [List.length_reverse, List.length_map]
          have : gs.length = (rndG gs).length := by simp [rndG]
          have p2 := (prod_two (rs := rndG gs) (fun n hn => by
            obtain ⟨p, hp, rfl⟩ := List.mem_map.mp hn
            have := (I.g p hp).2.2
            show (2 : Int) ≤ (p.2 : Int)
            omega)).1
          have ml := mems_len (rs := rndG gs) (rnd_pos gs)
          have il := I.len
          have : (rndG gs).length < 2 ^ (rndG gs).length := Nat.lt_two_pow_self
          have : ((2 ^ (rndG gs).length : Nat) : Int) = (2 : Int) ^ (rndG gs).length := by simp
          unfold lim
          omega
        have app : ((x, e) :: gs).map (fun p => rowD V (rowG put zero p.1 p.2)) = rowD V (rowG put zero x e) :: gs.map fun p => rowD V (rowG put zero p.1 p.2) := rfl
        rw [app, List.reverse_cons]
        have l1 : 1 ≤ lim := by decide
        have w1 : d_widened [G, dicF V D.bl C fun _ => true, rowD V (rowG put zero x e)] = _ := w1
        have it : itemsD (.lst (els.map fun x => rowD V (rowN els put zero x))) = .ok (els.map fun x => rowD V (rowN els put zero x)) := rfl
        have zz : rowD V [zero] = .lst [V zero] := rfl
        rw [zz] at for1
        generalize dicF V D.bl (extC put C (rowG put zero x e)) (fun _ => true) = C2 at *
        generalize dicF V D.bl C (fun _ => true) = CC at *
        generalize (els.map fun x => rowD V (rowN els put zero x)) = RR at *
        generalize (gs.map fun p => rowD V (rowG put zero p.1 p.2)).reverse = FF at *
        generalize rowD V (rowG put zero x e) = B at *
        generalize V zero = Z at *
        simp [parts_of_w4, lstD, l1, it, for1, appG, ownL, hl, w1]
    · left
      refine ⟨?_, gs, (I.plain L (by omega)).1, _, _, _, rfl⟩
      have g1' : decide ((C.length : Int) < (els.length : Int)) = false := decide_eq_false (by omega)
      generalize dicF V D.bl C (fun _ => true) = CC at *
      generalize D.lst (els.map fun x => rowD V (rowN els put zero x)) = RR at *
      generalize D.lst ((gs.map fun p => rowD V (rowG put zero p.1 p.2)).reverse) = FF at *
      generalize V zero = Z at *
      simp [parts_of_w4c, ld, ll, lt]) (k := els.length) (r := [.sh G, .sh (V zero), .sh (dicF V D.bl [zero] fun _ => true), .sh (.lst (els.map fun x => rowD V (rowN els put zero x))), .ow .flat (.lst []), .un, .un, .un]) ⟨[zero], [], .un, .un, PartsI.start L cm, by omega, rfl⟩ (by omega)
  refine ⟨gs, P, ?_⟩
  refine runO_rt rfl ?_
  simp only [startD, N_parts_of, List.length_cons, List.length_nil, List.map_cons, List.map_nil, Nat.reduceAdd, Nat.reduceSub, Nat.zero_add, List.replicate, List.cons_append, List.nil_append]
  have d1 : dic1 (V zero) (.bl true) = .ok (dicF V D.bl [zero] fun _ => true) := by
    unfold dic1
    simp only [K.t]
    rfl
  have hl : (els.map fun x => rowD V (rowN els put zero x)).length ≤ lim := by rw [lrows]; unfold lim; omega
  have l0 : 0 ≤ lim := by decide
  generalize dicF V D.bl [zero] (fun _ => true) = CC at *
  generalize (els.map fun x => rowD V (rowN els put zero x)) = RR at *
  generalize (gs.map fun p => rowD V (rowG put zero p.1 p.2)).reverse = FF at *
  generalize els.map V = EE at *
  generalize V zero = Z at *
  simp [e_parts_of, q1, q2, d1, m1, m2, c1, lstD, hl, l0, shareAt, freeze, loop, giveG]
end
theorem tuI_len (xs : List Int) (h : xs.length ≤ lim) : tupleD (.lst (xs.map D.int)) = .ok (tuI xs) := by simp [tupleD, h]
section
variable {α : Type} [DecidableEq α] {h : Nat} {V : α → D} {Q : α → NestedKey} {els : List α} {put : α → α → α} {back : α → α} {zero : α} {G : D}
/-- the sum by an element of the rounds -/
theorem com_turnP (L : GrpG h V els put back zero) (pf : PutF0 V els put G) {s1 s2 s3 s4 s5 : Slot} : ∀ {gs : List (α × Nat)} {v : List Int} {t : α} {s7 s8 : Slot}, (∀ p ∈ gs, p.1 ∈ els ∧ OrdG put zero p.1 p.2) → OkE (rndG gs) v → t ∈ els →
    ∃ a b, forD plainest_l2 (zipL2 (v.map D.int) (gs.map fun p => rowD V (rowG put zero p.1 p.2))) [.sh G, s1, s2, s3, s4, s5, .sh (V t), s7, s8] = .nx [.sh G, s1, s2, s3, s4, s5, .sh (V ((v.zip gs).foldl (fun t p => put t (powG put zero p.1.toNat p.2.1)) t)), a, b]
  | [], v, t, s7, s8, _, hv, _ => by
    have : v = [] := List.length_eq_zero_iff.mp hv.len
    subst this
    exact ⟨s7, s8, rfl⟩
  | p :: gs, [], t, s7, s8, _, hv, _ => by have := hv.len; simp [rndG] at this
  | p :: gs, i :: v, t, s7, s8, hg, hv, ht => by
    obtain ⟨f, f1, f2⟩ := pf
    obtain ⟨hp, o⟩ := hg p List.mem_cons_self
    obtain ⟨⟨i0, i1⟩, hv⟩ := OkE.cons.mp hv
    have ix := rowG_at (V := V) o i0 i1
    have hpw := L.powE hp i.toNat
    have pt := f2 t ht _ hpw
    obtain ⟨a, b, e⟩ := com_turnP (s1 := s1) (s2 := s2) (s3 := s3) (s4 := s4) (s5 := s5) (v := v) (t := put t (powG put zero i.toNat p.1)) (s7 := .sh (.int i)) (s8 := .sh (rowD V (rowG put zero p.1 p.2))) L ⟨f, f1, f2⟩ (fun q hq => hg q (List.mem_cons_of_mem _ hq)) hv (L.putE _ ht _ hpw)
    refine ⟨a, b, ?_⟩
    have z : zipL2 ((i :: v).map D.int) ((p :: gs).map fun p => rowD V (rowG put zero p.1 p.2)) = .tup [.int i, rowD V (rowG put zero p.1 p.2)] :: zipL2 (v.map D.int) (gs.map fun p => rowD V (rowG put zero p.1 p.2)) := rfl
    rw [z, forD_cons, List.zip_cons_cons, List.foldl_cons]
    have ix : ixD (rowD V (rowG put zero p.1 p.2)) (.int (i - 1)) = _ := ix
    have st : plainest_l2 (.tup [.int i, rowD V (rowG put zero p.1 p.2)]) [.sh G, s1, s2, s3, s4, s5, .sh (V t), s7, s8] = .nx [.sh G, s1, s2, s3, s4, s5, .sh (V (put t (powG put zero i.toNat p.1))), .sh (.int i), .sh (rowD V (rowG put zero p.1 p.2))] := by
      generalize rowD V (rowG put zero p.1 p.2) = RR at *
      generalize V (put t (powG put zero i.toNat p.1)) = A at *
      generalize V (powG put zero i.toNat p.1) = B at *
      generalize V t = C at *
      simp [plainest_l2, tupG, consG, nameG, nilG, f1, ix, pt]
    rw [st]
    exact e
/-- the plainest telling -/
theorem plainestP (L : GrpG h V els put back zero) (h64 : h ≤ 64) (K : KeyE V Q) (cm : ∀ a ∈ els, ∀ b ∈ els, put a b = put b a) (ev : EvenF0 G true) (pf : PutF0 V els put G) (zf : ZeroF0 V zero G) (mf : MemF0 V els G) (mr : ∀ rs, OkG rs → MemF0 tuI (mems rs) (gR rs)) : ∃ gs, PlainG els put zero gs ∧ d_plainest [G] = .ok (.tup [tuI (rndG gs), dicA V tuI ((mems (rndG gs)).map fun v => (comG put zero v gs, v)), dicF tuI V (mems (rndG gs)) fun v => comG put zero v gs]) := by
  obtain ⟨gs, P, dp⟩ := partsP L h64 K cm pf zf mf
  refine ⟨gs, P, ?_⟩
  have g := P.okG L
  have gE : ∀ p ∈ gs, p.1 ∈ els ∧ OrdG put zero p.1 p.2 := fun p hp => ⟨(P.g p hp).1, (P.g p hp).2.1⟩
  have ct := fun {s1 s2 s3 s4 s5 : Slot} {v : List Int} {t : α} {s7 s8 : Slot} hv ht => com_turnP L pf (s1 := s1) (s2 := s2) (s3 := s3) (s4 := s4) (s5 := s5) (v := v) (t := t) (s7 := s7) (s8 := s8) gE hv ht
  obtain ⟨q, q1, q2⟩ := zf
  obtain ⟨fe, fe1, fe2⟩ := ev
  obtain ⟨m, m1, m2⟩ := mr _ g
  have ri := init_ok g (tuI (rndG gs)) (.inl rfl)
  have lg : gs.length ≤ 7 := by have := g.ok.len; simpa [rndG] using this
  have l144 : (mems (rndG gs)).length ≤ 144 := by rw [← P.len]; exact L.len
  have nd := P.nd L
  have c1 : ∀ s3 s4 s5 s6 s7, plainest_c1 [.sh G, .ow .flat (.lst (gs.map fun p => rowD V (rowG put zero p.1 p.2))), .un, s3, s4, s5, s6, s7, .un] (gs.map fun p => rowD V (rowG put zero p.1 p.2)) = .ok ((rndG gs).map D.int) := fun s3 s4 s5 s6 s7 => by
    have e : (rndG gs).map D.int = gs.map fun p => D.int (p.2 : Int) := by simp [rndG]
    rw [e]
    unfold plainest_c1
    refine lcD_one (fun p : α × Nat => rowD V (rowG put zero p.1 p.2)) (fun p => D.int (p.2 : Int)) fun p _ => ⟨rfl, ?_⟩
    have l1 : lenD (rowD V (rowG put zero p.1 p.2)) = .ok (.int (p.2 : Int)) := by show Res.ok (D.int (((rowG put zero p.1 p.2).map V).length : Nat)) = _; rw [List.length_map, rowG_len]
    generalize (gs.map fun p => rowD V (rowG put zero p.1 p.2)) = PL at *
    generalize rowD V (rowG put zero p.1 p.2) = RR at *
    simp [wipeR, l1]
  obtain ⟨r2, for1, s1, s5, s6, s7, s8, e1, rfl⟩ := forD_row (f := plainest_l3) (pre0 := mems (rndG gs)) tuI (fun pre r => ∃ s1 s5 s6 s7 s8, (s1 = .ow .flat (.lst (gs.map fun p => rowD V (rowG put zero p.1 p.2))) ∨ s1 = .sh (.lst (gs.map fun p => rowD V (rowG put zero p.1 p.2)))) ∧ r = [.sh G, s1, .sh (tuI (rndG gs)), .ow .flat (dicA V tuI (pre.map fun v => (comG put zero v gs, v))), .ow .flat (dicA tuI V (pre.map fun v => (v, comG put zero v gs))), s5, s6, s7, s8]) (ds := mems (rndG gs)) (pre := []) (r := [.sh G, .ow .flat (.lst (gs.map fun p => rowD V (rowG put zero p.1 p.2))), .sh (tuI (rndG gs)), .ow .flat (.dic [] []), .ow .flat (.dic [] []), .un, .un, .un, .un]) (fun pre v hp r ⟨s1, s5, s6, s7, s8, e1, hr⟩ => by
    subst hr
    have hv : OkE (rndG gs) v := mem_mems.mp (hp.subset (by simp))
    obtain ⟨a, b, ct⟩ := ct (s1 := .sh (.lst (gs.map fun p => rowD V (rowG put zero p.1 p.2)))) (s2 := .sh (tuI (rndG gs))) (s3 := .ow .flat (dicA V tuI (pre.map fun v => (comG put zero v gs, v)))) (s4 := .ow .flat (dicA tuI V (pre.map fun v => (v, comG put zero v gs)))) (s5 := .sh (tuI v)) (s7 := s7) (s8 := s8) hv L.zeroE
    have hl : pre.length < 144 := by
      have := hp.length_le
      rw [List.length_append, List.length_singleton] at this
      omega
    have hnp : (pre ++ [v]).Nodup := (mems_nodup _).sublist hp.sublist
    have hnd : ((pre ++ [v]).map fun v => comG put zero v gs).Nodup := nd.sublist (hp.sublist.map _)
    have f1 : comG put zero v gs ∉ (pre.map fun v => (comG put zero v gs, v)).map (·.1) := by
      rw [List.map_append] at hnd
      rw [List.map_map]
      exact fun hin => (List.nodup_append.mp hnd).2.2 _ hin _ (by simp) rfl
    have f2 : v ∉ (pre.map fun v => (v, comG put zero v gs)).map (·.1) := by
      rw [List.map_map]
      have : ((fun p : List Int × α => p.1) ∘ fun v => (v, comG put zero v gs)) = id := rfl
      rw [this, List.map_id]
      exact fun hin => (List.nodup_append.mp hnp).2.2 _ hin _ (by simp) rfl
    have s1' : setD (dicA V tuI (pre.map fun v => (comG put zero v gs, v))) (V (comG put zero v gs)) (tuI v) = .ok (dicA V tuI ((pre ++ [v]).map fun v => (comG put zero v gs, v))) := by
      rw [setD_A K _ _ _ (by rw [List.length_map]; unfold lim; omega), setA_new _ f1, List.map_append]
      rfl
    have s2' : setD (dicA tuI V (pre.map fun v => (v, comG put zero v gs))) (tuI v) (V (comG put zero v gs)) = .ok (dicA tuI V ((pre ++ [v]).map fun v => (v, comG put zero v gs))) := by
      rw [setD_A keyE _ _ _ (by rw [List.length_map]; unfold lim; omega), setA_new _ f2, List.map_append]
      rfl
    refine ⟨[.sh G, .sh (.lst (gs.map fun p => rowD V (rowG put zero p.1 p.2))), .sh (tuI (rndG gs)), .ow .flat (dicA V tuI ((pre ++ [v]).map fun v => (comG put zero v gs, v))), .ow .flat (dicA tuI V ((pre ++ [v]).map fun v => (v, comG put zero v gs))), .sh (tuI v), .sh (V (comG put zero v gs)), a, b], ?_, _, _, _, _, _, .inr rfl, rfl⟩
    have ct : forD plainest_l2 (zipL2 (v.map D.int) (gs.map fun p => rowD V (rowG put zero p.1 p.2))) _ = Oc.nx [.sh G, .sh (.lst (gs.map fun p => rowD V (rowG put zero p.1 p.2))), .sh (tuI (rndG gs)), .ow .flat (dicA V tuI (pre.map fun v => (comG put zero v gs, v))), .ow .flat (dicA tuI V (pre.map fun v => (v, comG put zero v gs))), .sh (tuI v), .sh (V (comG put zero v gs)), a, b] := ct
    have zz : zip2D [tuI v, .lst (gs.map fun p => rowD V (rowG put zero p.1 p.2))] = .ok (zipL2 (v.map D.int) (gs.map fun p => rowD V (rowG put zero p.1 p.2))) := rfl
    obtain ⟨d0, hd0⟩ : ∃ d, d = dicA V tuI (pre.map fun v => (comG put zero v gs, v)) := ⟨_, rfl⟩
    obtain ⟨d0', hd0'⟩ : ∃ d, d = dicA tuI V (pre.map fun v => (v, comG put zero v gs)) := ⟨_, rfl⟩
    have o3 : ∀ l : List (α × List Int), ∃ ks vs, dicA V tuI l = .dic ks vs := fun l => ⟨_, _, rfl⟩
    have o4 : ∀ l : List (List Int × α), ∃ ks vs, dicA tuI V l = .dic ks vs := fun l => ⟨_, _, rfl⟩
    obtain ⟨k1, w1, h1⟩ := o3 (pre.map fun v => (comG put zero v gs, v))
    obtain ⟨k2, w2, h2⟩ := o4 (pre.map fun v => (v, comG put zero v gs))
    rw [h1] at ct s1' ⊢
    rw [h2] at ct s2' ⊢
    clear hd0 hd0' h1 h2
    generalize dicA V tuI ((pre ++ [v]).map fun v => (comG put zero v gs, v)) = E1 at *
    generalize dicA tuI V ((pre ++ [v]).map fun v => (v, comG put zero v gs)) = E2 at *
    generalize zipL2 (v.map D.int) (gs.map fun p => rowD V (rowG put zero p.1 p.2)) = ZL at *
    generalize (gs.map fun p => rowD V (rowG put zero p.1 p.2)) = PL at *
    generalize V (comG put zero v gs) = A at *
    generalize V zero = Z at *
    generalize tuI (rndG gs) = TR at *
    generalize tuI v = TV at *
    rcases e1 with rfl | rfl
    · simp [plainest_l3, nameG, q1, q2, freeze, zz, ct, setG, ownF, s1', s2']
    · simp [plainest_l3, nameG, q1, q2, freeze, zz, ct, setG, ownF, s1', s2']) (by simp) ⟨_, _, _, _, _, .inl rfl, rfl⟩
  rw [List.nil_append] at for1
  refine runO_rt rfl ?_
  simp only [startD, N_plainest, List.length_cons, List.length_nil, List.map_cons, List.map_nil, Nat.reduceAdd, Nat.reduceSub, Nat.zero_add, List.replicate, List.cons_append, List.nil_append]
  have tl := tuI_len (rndG gs) (by have := g.ok.len; unfold lim; omega)
  have hl : ((rndG gs).map D.int).length ≤ lim := by have := g.ok.len; rw [List.length_map]; unfold lim; omega
  have c1 := c1 .un .un .un .un .un
  generalize dicA V tuI ((mems (rndG gs)).map fun v => (comG put zero v gs, v)) = E1 at *
  show _ = Oc.rt (D.tup [_, _, dicA tuI V ((mems (rndG gs)).map fun v => (v, comG put zero v gs))])
  generalize dicA tuI V ((mems (rndG gs)).map fun v => (v, comG put zero v gs)) = E2 at *
  generalize (gs.map fun p => rowD V (rowG put zero p.1 p.2)) = PL at *
  generalize (mems (rndG gs)).map tuI = ML at *
  generalize gR (rndG gs) = GR at *
  generalize (rndG gs).map D.int = RI at *
  generalize tuI (rndG gs) = TR at *
  simp [-tupleD, e_plainest, fe1, fe2, dp, revG, ownL, c1, lstD, hl, tl, ri, m1, m2, for1, giveT2]
end
theorem perm_eqB {α : Type} {le : α → α → Prop} : ∀ {xs ys : List α}, (∀ a ∈ xs, ∀ b ∈ xs, le a b → le b a → a = b) → xs.Pairwise le → ys.Pairwise le → xs.Perm ys → xs = ys
  | [], ys, _, _, _, p => (List.nil_perm.mp p).symm
  | x :: xs, [], _, _, _, p => absurd (List.perm_nil.mp p) (by simp)
  | x :: xs, y :: ys, h, h1, h2, p => by
    obtain ⟨a1, a2⟩ := List.pairwise_cons.mp h1
    obtain ⟨b1, b2⟩ := List.pairwise_cons.mp h2
    have e : x = y := by
      rcases List.mem_cons.mp (p.mem_iff.mp (List.mem_cons_self (a := x) (l := xs))) with e | hx
      · exact e
      · rcases List.mem_cons.mp (p.mem_iff.mpr (List.mem_cons_self (a := y) (l := ys))) with e | hy
        · exact e.symm
        · exact h x List.mem_cons_self y (List.mem_cons_of_mem _ hy) (a1 y hy) (b1 x hx)
    subst e
    rw [perm_eqB (fun a ha b hb => h a (List.mem_cons_of_mem _ ha) b (List.mem_cons_of_mem _ hb)) a2 b2 (List.perm_cons x |>.mp p)]
theorem zip_mapsB {α β γ : Type} (f : α → β) (g : α → γ) : ∀ L : List α, (L.map f).zip (L.map g) = L.map fun a => (f a, g a)
  | [] => rfl
  | a :: L => by rw [List.map_cons, List.map_cons, List.zip_cons_cons, zip_mapsB f g L, List.map_cons]
theorem toPys_mapB {α : Type} {put : α → D} {enc : α → PyData} (h : ∀ a, toPy (put a) = some (enc a)) : ∀ L : List α, toPy.toPys (L.map put) = some (L.map enc)
  | [] => rfl
  | k :: L => by rw [List.map_cons, toPy.toPys, h k, toPys_mapB h L]; rfl
/-- what a sorted list is: the given order of its own things -/
theorem sorted_data {α : Type} {put : α → D} {enc : α → PyData} (h : ∀ a, toPy (put a) = some (enc a)) {K L : List α} (up : K.Pairwise (fun a b => PySem.W.dataLt (enc b) (enc a) = false ∧ PySem.W.dataLt (enc a) (enc b) = true))
    (al : K.all (fun a => tupB (enc a) && decide ((enc a).depth ≤ 50) && K.all fun b => PySem.W.alike (enc a) (enc b)) = true) (p : L.Perm K) : sortedX (.lst (L.map put)) = .ok (.lst (K.map put)) := by
  have al' : ∀ a ∈ K, (tupB (enc a) = true ∧ (enc a).depth ≤ 50) ∧ ∀ b ∈ K, PySem.W.alike (enc a) (enc b) = true := fun a ha => by
    have := List.all_eq_true.mp al a ha
    rw [Bool.and_eq_true, Bool.and_eq_true] at this
    exact ⟨⟨this.1.1, of_decide_eq_true this.1.2⟩, fun b hb => List.all_eq_true.mp this.2 b hb⟩
  have sb : sortB (L.map enc) = true := by
    unfold sortB
    rw [Bool.and_eq_true, Bool.and_eq_true]
    refine ⟨List.all_eq_true.mpr fun d hd => List.all_eq_true.mpr fun d' hd' => ?_, List.all_eq_true.mpr fun d hd => ?_, List.all_eq_true.mpr fun d hd => ?_⟩
    · obtain ⟨a, ha, rfl⟩ := List.mem_map.mp hd
      obtain ⟨b, hb, rfl⟩ := List.mem_map.mp hd'
      exact (al' a (p.mem_iff.mp ha)).2 b (p.mem_iff.mp hb)
    · obtain ⟨a, ha, rfl⟩ := List.mem_map.mp hd
      exact (al' a (p.mem_iff.mp ha)).1.1
    · obtain ⟨a, ha, rfl⟩ := List.mem_map.mp hd
      exact decide_eq_true (al' a (p.mem_iff.mp ha)).1.2
  have ms : ((L.map fun a => (put a, enc a)).mergeSort (PySem.W.dataLe false (·.2))).map (·.1) = (L.mergeSort (PySem.W.dataLe false enc)).map put := by
    have := (List.map_mergeSort (f := fun a => (put a, enc a)) (r := PySem.W.dataLe false enc) (s := PySem.W.dataLe false (·.2)) (l := L) fun a _ b _ => rfl)
    rw [← this, List.map_map]
    rfl
  have to := PySem.W.sortLe_total (PyProof.Rows.listOrd PyProof.Rows.itemOrd) false (fun b => PySem.W.keyToks (enc b))
  have pw : (L.mergeSort (PySem.W.dataLe false enc)).Pairwise (fun a b => PySem.W.dataLe false enc a b = true) := List.pairwise_mergeSort (fun a b c h1 h2 => to.trans a b c h1 h2) (fun a b => by
    have := to.total a b
    rw [Bool.or_eq_true]
    exact this) L
  have pk : K.Pairwise (fun a b => PySem.W.dataLe false enc a b = true) := up.imp fun h => by
    show (!PySem.W.dataLt (enc _) (enc _)) = true
    rw [h.1]
    rfl
  have anti : ∀ a ∈ K, ∀ b ∈ K, PySem.W.dataLe false enc a b = true → PySem.W.dataLe false enc b a = true → a = b := fun a ha b hb h1 h2 => by
    obtain ⟨i, hi, rfl⟩ := List.mem_iff_getElem.mp ha
    obtain ⟨j, hj, rfl⟩ := List.mem_iff_getElem.mp hb
    have h1 : (!PySem.W.dataLt (enc K[j]) (enc K[i])) = true := h1
    have h2 : (!PySem.W.dataLt (enc K[i]) (enc K[j])) = true := h2
    rcases Nat.lt_trichotomy i j with h | h | h
    · have := (List.pairwise_iff_getElem.mp up i j hi hj h).2
      rw [this] at h2
      cases h2
    · subst h
      rfl
    · have := (List.pairwise_iff_getElem.mp up j i hj hi h).2
      rw [this] at h1
      cases h1
  have e : L.mergeSort (PySem.W.dataLe false enc) = K := (perm_eqB anti pk pw ((List.mergeSort_perm L _).trans p).symm).symm
  unfold sortedX
  simp only [toPys_mapB h, sb, if_true, zip_mapsB]
  rw [ms, e]
theorem toPy_tuIB (x : List Int) : toPy (tuI x) = some (.tuple (x.map .int)) := by
  have : ∀ x : List Int, toPy.toPys (x.map D.int) = some (x.map .int) := fun x => by
    induction x with
    | nil => rfl
    | cons a x ih => rw [List.map_cons, toPy.toPys, ih]; rfl
  show (toPy.toPys (x.map D.int)).map PyData.tuple = _
  rw [this]
  rfl
theorem keysL_tuI : ∀ xs : List (List Int), keysL (xs.map tuI) = some xs
  | [] => rfl
  | x :: xs => by
    have e : keyL (tuI x) = some x := by
      show intsD (x.map .int) = some x
      induction x with
      | nil => rfl
      | cons a x ih => rw [List.map_cons, intsD, ih]; rfl
    rw [List.map_cons, keysL, keysL_tuI xs]
    simp only [e]
theorem lex_lt : ∀ a b : List Int, HT.lexLt a b = decide (a < b)
  | [], [] => rfl
  | [], _ :: _ => by rw [HT.lexLt_nil_cons]; simp
  | _ :: _, [] => by rw [HT.lexLt_cons_nil]; simp
  | x :: xs, y :: ys => by
    rw [HT.lexLt_cons, lex_lt xs ys]
    by_cases e : x = y
    · subst e
      simp
    · rw [if_neg e]
      simp [List.cons_lt_cons_iff, e]
theorem lt_app : ∀ {a b : List Int} (c d : List Int), a.length = b.length → a < b → a ++ c < b ++ d
  | [], [], _, _, _, h => absurd h (by simp)
  | [], _ :: _, _, _, h, _ => by simp at h
  | _ :: _, [], _, _, h, _ => by simp at h
  | x :: xs, y :: ys, c, d, hl, h => by
    rw [List.cons_append, List.cons_append, List.cons_lt_cons_iff]
    rcases List.cons_lt_cons_iff.mp h with e | ⟨e, h⟩
    · exact .inl e
    · exact .inr ⟨e, lt_app c d (by simpa using hl) h⟩
theorem app_lt : ∀ (a : List Int) {c d : List Int}, c < d → a ++ c < a ++ d
  | [], _, _, h => h
  | x :: xs, c, d, h => by
    rw [List.cons_append, List.cons_append, List.cons_lt_cons_iff]
    exact .inr ⟨rfl, app_lt xs h⟩
theorem fold_lt : ∀ (rs : List Int) (S : List (List Int)) (k : Nat), S.Pairwise (· < ·) → (∀ s ∈ S, s.length = k) → (rs.foldl memsStep S).Pairwise (· < ·)
  | [], S, _, h, _ => h
  | n :: rs, S, k, h, hk => by
    rw [List.foldl_cons]
    refine fold_lt rs _ (k + 1) ?_ fun s hs => ?_
    · unfold memsStep
      rw [List.pairwise_flatMap]
      refine ⟨fun s _ => ?_, ?_⟩
      · rw [List.pairwise_map]
        refine List.Pairwise.imp (R := (· < ·)) (fun {a b} hab => app_lt s ?_) List.pairwise_lt_range
        rw [List.cons_lt_cons_iff]
        left
        omega
      · refine List.Pairwise.imp_of_mem (R := (· < ·)) (fun {a b} ha hb hab x hx y hy => ?_) h
        obtain ⟨i, _, rfl⟩ := List.mem_map.mp hx
        obtain ⟨j, _, rfl⟩ := List.mem_map.mp hy
        exact lt_app _ _ (by rw [hk a ha, hk b hb]) hab
    · unfold memsStep at hs
      obtain ⟨a, ha, hs⟩ := List.mem_flatMap.mp hs
      obtain ⟨i, _, rfl⟩ := List.mem_map.mp hs
      simp [hk a ha]
theorem mems_lt (rs : List Int) : (mems rs).Pairwise (· < ·) := fold_lt rs [[]] 0 (by simp) (by simp)
theorem lt_anti {a b : List Int} (h : a < b) : ¬ b < a := fun h2 => by
  have h1 : HT.lexLt a b = true := by rw [lex_lt]; exact decide_eq_true h
  have := NtL.lex_asym _ _ h1
  rw [lex_lt, decide_eq_false_iff_not] at this
  exact this h2
theorem mems_upL (rs : List Int) : upL (mems rs) := (mems_lt rs).imp fun h => by
  rw [lex_lt]
  exact decide_eq_false (lt_anti h)
theorem mems_short {rs : List Int} : ∀ l : List (List Int), l.Perm (mems rs) → (l.length < 2 ∨ l.all (fun x => !x.isEmpty) = true) := fun l p => by
  cases rs with
  | nil =>
    left
    rw [p.length_eq]
    decide
  | cons n rs =>
    right
    rw [List.all_eq_true]
    intro x hx
    have := (mem_mems.mp (p.mem_iff.mp hx)).len
    cases x with
    | nil => simp at this
    | cons a x => rfl
/-- sorted() of a dict whose keys are all elements by rounds, in any order -/
theorem sortedD_mems {rs : List Int} {ls : List (List Int)} (p : ls.Perm (mems rs)) (vs : List D) : sortedD (.dic (ls.map tuI) vs) = .ok (.lst ((mems rs).map tuI)) := by
  have kk := keysL_tuI ls
  unfold sortedD
  simp only [kk]
  rw [if_pos (mems_short ls p), isort_of (mems_upL rs) p.symm]
theorem dataLt_tI (a b : List Int) : PySem.W.dataLt (.tuple (a.map .int)) (.tuple (b.map .int)) = decide (a < b) := by
  rw [PySem.W.dataLt_tuple]
  exact PySem.W.dataLt_ints a b
theorem alikeAll_ints : ∀ a b : List Int, PySem.W.alikeAll (a.map .int) (b.map .int) = true
  | [], [] => by simp [PySem.W.alikeAll]
  | [], _ :: _ => by simp [PySem.W.alikeAll]
  | _ :: _, [] => by simp [PySem.W.alikeAll]
  | x :: xs, y :: ys => by
    rw [List.map_cons, List.map_cons, PySem.W.alikeAll, alikeAll_ints xs ys]
    simp [PySem.W.alike]
theorem alike_tI (a b : List Int) : PySem.W.alike (.tuple (a.map .int)) (.tuple (b.map .int)) = true := by
  rw [PySem.W.alike]
  exact alikeAll_ints a b
theorem depth_tI (x : List Int) : (PyData.tuple (x.map .int)).depth ≤ 1 := by
  show PyData.depthAll (x.map .int) + 1 ≤ 1
  rw [PySem.W.depth_ints]
  exact Nat.le_refl 1
/-- sorted() of a list of elements by rounds -/
theorem sortedX_mems {rs : List Int} (h : rs ≠ []) {ls : List (List Int)} (p : ls.Perm (mems rs)) : sortedX (.lst (ls.map tuI)) = .ok (.lst ((mems rs).map tuI)) := by
  refine sorted_data toPy_tuIB ((mems_lt rs).imp fun hab => ?_) ?_ p
  · rw [dataLt_tI, dataLt_tI]
    exact ⟨decide_eq_false (lt_anti hab), decide_eq_true hab⟩
  · rw [List.all_eq_true]
    intro a ha
    rw [Bool.and_eq_true, Bool.and_eq_true]
    refine ⟨⟨?_, decide_eq_true (Nat.le_trans (depth_tI a) (by omega))⟩, List.all_eq_true.mpr fun b _ => alike_tI a b⟩
    have hl := (mem_mems.mp ha).len
    cases a with
    | nil => cases rs with
      | nil => exact absurd rfl h
      | cons n rs => simp at hl
    | cons x a => rfl
theorem sortedVS_is (ks vs : List D) : sortedVS (.dic ks vs) = if vs.length < 2 then .ok (.lst vs) else sortedX (.lst vs) := rfl
/-- sorted() of a dict's values that are all elements by rounds -/
theorem sortedVS_mems {rs : List Int} {ls : List (List Int)} (p : ls.Perm (mems rs)) (ks : List D) : sortedVS (.dic ks (ls.map tuI)) = .ok (.lst ((mems rs).map tuI)) := by
  rw [sortedVS_is]
  cases rs with
  | nil =>
    have e : mems [] = [[]] := rfl
    rw [e] at p ⊢
    obtain rfl := List.perm_singleton.mp p
    rfl
  | cons n rs =>
    split
    · rename_i hl
      rw [List.length_map] at hl
      have : ls = mems (n :: rs) := by
        have hl2 := p.length_eq
        generalize mems (n :: rs) = ys at *
        match ls, ys, hl, hl2, p with
        | [], [], _, _, _ => rfl
        | [a], [b], _, _, p => exact List.perm_singleton.mp p
        | _ :: _ :: _, _, hl, _, _ => simp at hl; omega
      rw [this]
    · exact sortedX_mems (by simp) p
/-- so many times, of rounds -/
theorem powR_cons (r : Int) (rs : List Int) (a : Int) (x : List Int) : ∀ n : Nat, powG (putV (r :: rs)) (zeroV (r :: rs)) n (a :: x) = (if n = 0 then 0 else (n * a) % r) :: powG (putV rs) (zeroV rs) n x
  | 0 => rfl
  | n + 1 => by
    show putV (r :: rs) (powG (putV (r :: rs)) (zeroV (r :: rs)) n (a :: x)) (a :: x) = _ :: putV rs (powG (putV rs) (zeroV rs) n x) x
    rw [powR_cons r rs a x n]
    show ((if n = 0 then (0 : Int) else (n * a) % r) + a) % r :: putV rs _ x = _
    congr 1
    rw [show (if n + 1 = 0 then (0 : Int) else ((n + 1 : Nat) : Int) * a % r) = ((n + 1 : Nat) : Int) * a % r from if_neg (Nat.succ_ne_zero n)]
    by_cases h : n = 0
    · subst h
      simp
    · rw [if_neg h, Int.emod_add_emod]
      congr 1
      rw [Int.natCast_add, Int.add_mul]
      simp
theorem powR_nil : ∀ n : Nat, powG (putV []) (zeroV []) n [] = []
  | 0 => rfl
  | n + 1 => by
    show putV [] _ [] = []
    rw [powR_nil n]
    rfl
theorem powR_null (n : Nat) : ∀ {es : List Nat} {v : List Int}, OkE (es.map fun e : Nat => (e : Int)) v → (powG (putV (es.map fun e : Nat => (e : Int))) (zeroV (es.map fun e : Nat => (e : Int))) n v = zeroV (es.map fun e : Nat => (e : Int)) ↔ nullV n es v = true)
  | [], v, hv => by
    have : v = [] := List.length_eq_zero_iff.mp hv.len
    subst this
    rw [List.map_nil, powR_nil]
    simp [zeroV, nullV]
  | e :: es, [], hv => by have := hv.len; simp at this
  | e :: es, i :: v, hv => by
    obtain ⟨⟨i0, i1⟩, hv⟩ := OkE.cons.mp hv
    have ih := powR_null n hv
    rw [List.map_cons, powR_cons]
    show _ :: _ = (0 : Int) :: zeroV (es.map fun e : Nat => (e : Int)) ↔ (decide (e ∣ n * i.toNat) && nullV n es v) = true
    rw [List.cons.injEq, ih, Bool.and_eq_true, decide_eq_true_eq]
    refine and_congr ?_ Iff.rfl
    obtain ⟨k, rfl⟩ : ∃ k : Nat, i = (k : Int) := ⟨i.toNat, by omega⟩
    rw [Int.toNat_natCast]
    split
    · rename_i h
      subst h
      simp
    · rw [Nat.dvd_iff_mod_eq_zero]
      have q : ((n : Int) * (k : Int)) % (e : Int) = ((n * k % e : Nat) : Int) := by rw [Int.natCast_emod, Int.natCast_mul]
      show ((n : Int) * (k : Int)) % (e : Int) = 0 ↔ _
      rw [q]
      omega
theorem cast_back {rs : List Int} (h : ∀ n ∈ rs, 0 ≤ n) : (rs.map Int.toNat).map (fun e : Nat => (e : Int)) = rs := by
  rw [List.map_map]
  conv => rhs; rw [← List.map_id rs]
  exact List.map_congr_left fun n hn => Int.toNat_of_nonneg (h n hn)
/-- how many elements by rounds a number takes to the nought -/
theorem count_rounds {rs : List Int} (h : ∀ n ∈ rs, 2 ≤ n) (n : Nat) : cntG (mems rs) (putV rs) (zeroV rs) n = gcdP n (rs.map Int.toNat) := by
  have e := cast_back (rs := rs) fun n hn => by have := h n hn; omega
  rw [← null_len n (rs.map Int.toNat) (fun m hm => by
    obtain ⟨k, hk, rfl⟩ := List.mem_map.mp hm
    have := h k hk
    omega), ← ((memR_perm (rs.map Int.toNat)).filter _).length_eq, e]
  unfold cntG
  congr 1
  refine List.filter_congr fun v hv => ?_
  have hv := mem_mems.mp hv
  have := powR_null n (es := rs.map Int.toNat) (v := v) (by rw [e]; exact hv)
  rw [e] at this
  rw [Bool.eq_iff_iff, decide_eq_true_eq, this]
theorem dvd_prod : ∀ {es : List Nat} {e : Nat}, e ∈ es → e ∣ es.foldr (· * ·) 1
  | f :: es, e, h => by
    rw [List.foldr_cons]
    rcases List.mem_cons.mp h with rfl | h
    · exact Nat.dvd_mul_right _ _
    · exact Nat.dvd_trans (dvd_prod h) (Nat.dvd_mul_left _ _)
theorem prod_cast : ∀ es : List Nat, (es.map fun e : Nat => (e : Int)).foldl (· * ·) 1 = ((es.foldr (· * ·) 1 : Nat) : Int)
  | [] => rfl
  | e :: es => by
    rw [List.map_cons, foldl_mul1, prod_cast es, List.foldr_cons, Int.natCast_mul]
/-- the plainest rounds are told by how many elements each number takes to the nought -/
theorem PlainG.uniq {α : Type} [DecidableEq α] {h : Nat} {V : α → D} {els : List α} {put : α → α → α} {back : α → α} {zero : α} {gs : List (α × Nat)} (L : GrpG h V els put back zero) (cm : ∀ a ∈ els, ∀ b ∈ els, put a b = put b a) (P : PlainG els put zero gs) {F : List Int} (h2 : ∀ n ∈ F, 2 ≤ n) (hp : (F.map Int.toNat).reverse.Pairwise fun a b => b ∣ a) (hN : F.foldl (· * ·) 1 = (els.length : Int))
    (hc : ∀ n : Nat, 1 ≤ n → n ∣ els.length → gcdP n (F.map Int.toNat) = cntG els put zero n) : rndG gs = F := by
  have eN : els.length = (gs.map (·.2)).foldr (· * ·) 1 := by
    have h1 := mems_len (rs := rndG gs) (rnd_pos gs)
    have h3 := prod_cast (gs.map (·.2))
    rw [List.map_map] at h3
    have h3 : (rndG gs).foldl (· * ·) 1 = _ := h3
    rw [h3, ← P.len] at h1
    omega
  have F0 : ∀ n ∈ F, 0 ≤ n := fun n hn => by have := h2 n hn; omega
  have eF : els.length = (F.map Int.toNat).foldr (· * ·) 1 := by
    have h3 := prod_cast (F.map Int.toNat)
    rw [cast_back F0, hN] at h3
    omega
  have key := chain_uniq (P := fun n => n ∣ els.length) (es := (gs.map (·.2)).reverse) (fs := (F.map Int.toNat).reverse) (by
      rw [List.pairwise_reverse, List.pairwise_map]
      exact P.dv) hp (fun e he => by
      rw [List.mem_reverse] at he
      obtain ⟨p, hp, rfl⟩ := List.mem_map.mp he
      exact ⟨(P.g p hp).2.2, eN ▸ dvd_prod he⟩) (fun f hf => by
      rw [List.mem_reverse] at hf
      obtain ⟨n, hn, rfl⟩ := List.mem_map.mp hf
      exact ⟨by have := h2 n hn; omega, eF ▸ dvd_prod hf⟩) (fun n n1 hn => by
      rw [gcdP_rev, gcdP_rev, hc n n1 hn, P.count L cm n])
  have key := List.reverse_inj.mp key
  have := congrArg (List.map fun e : Nat => (e : Int)) key
  rw [cast_back F0, List.map_map] at this
  exact this
theorem q_cell_ok (ns : List Int) (k : Int) (h0 : 0 ≤ k) (hlen : ns.length ≤ 63) (h1 : k ≤ 1000000) : ∃ c, d_q_cell [.scr ns, .int k] = .ok (.int c) := by
  have go : ∃ c, e_q_cell (startD N_q_cell.length [.scr ns, .int k]) = .rt (.int c) := by
    have st : startD N_q_cell.length [.scr ns, .int k] = [.sh (.scr ns), .sh (.int k), .un, .un] := rfl
    rw [st]
    unfold e_q_cell
    have pw : powD (.int 10) (.int 18) = .ok (.int 1000000000000000000) := by kernel_rfl
    have m1 := fun c : Int => mulD_small (i := c) (j := 48271) (.inr ⟨by omega, by omega⟩)
    have m2 := mulD_small (i := 16807) (j := k) (.inl ⟨by omega, by omega⟩)
    have m3 := fun c : Int => mulD_small (i := c) (j := 69621) (.inr ⟨by omega, by omega⟩)
    by_cases hn : 0 < ns.length
    · have hm := Int.emod_nonneg k (b := (ns.length : Int)) (by omega)
      have hm2 := Int.emod_lt_of_pos k (b := (ns.length : Int)) (by omega)
      have hix : ixD (.scr ns) (.int (k % ns.length)) = .ok (.int (ns.getD (k % ns.length).toNat 0)) := by
        rw [ixD_scr, atI_getD hm hm2]
      have mdl := modD_ok (i := k) (j := (ns.length : Int)) (by omega)
      generalize ns.getD (k % ns.length).toNat 0 = c at hix
      by_cases hb : 1 < ns.length
      · have hz : (0 : Int) < (ns.length : Int) - 1 := by omega
        have hz1 : (1 : Int) < (ns.length : Int) := by omega
        have a0 := Int.emod_nonneg k (b := (ns.length : Int) - 1) (by omega)
        have a1 := Int.emod_lt_of_pos k (b := (ns.length : Int) - 1) hz
        have md := modD_ok (i := k) (j := (ns.length : Int) - 1) hz
        have i0 : ixD (.scr ns) (.int 0) = .ok (.int (ns.getD 0 0)) := by
          rw [ixD_scr, atI_getD (by omega) (by omega)]; rfl
        have i1 : ixD (.scr ns) (.int (1 + k % ((ns.length : Int) - 1))) = .ok (.int (ns.getD (1 + k % ((ns.length : Int) - 1)).toNat 0)) := by
          rw [ixD_scr, atI_getD (by omega) (by omega)]
        generalize ns.getD (1 + k % ((ns.length : Int) - 1)).toNat 0 = c1 at i1
        by_cases hs : ns.getD 0 0 % 2 = 1
        · have hd : bits ((ns.length : Int) - 1) < 250 := by
            have := bits_lt (i := (ns.length : Int) - 1) (n := 8) (by omega) (by omega)
            omega
          · have dv := divD_ok (i := k) (j := (ns.length : Int) - 1) hz hd
            have q0 : 0 ≤ k / ((ns.length : Int) - 1) := Int.ediv_nonneg h0 (by omega)
            have q1 : k / ((ns.length : Int) - 1) ≤ k := Int.ediv_le_self _ h0
            have m5 := mulD_small (i := 31) (j := k / ((ns.length : Int) - 1)) (.inr ⟨by omega, by omega⟩)
            have sh : shrD (.int c1) (.int (31 * (k / ((ns.length : Int) - 1)))) = .ok (.int (c1 / 2 ^ (31 * (k / ((ns.length : Int) - 1))).toNat)) := if_pos (by omega)
            generalize 31 * (k / ((ns.length : Int) - 1)) = e at m5 sh
            generalize c1 / 2 ^ e.toNat = z at sh
            have mz := modD_ok (i := z) (j := 2147483648) (by omega)
            refine ⟨z % 2147483648, ?_⟩
            generalize z % 2147483648 = R at mz ⊢
            simp [-ixD_scr, -List.getD_eq_getElem?_getD, i0, hz, hz1, hs, modD_ok, md, i1, dv, m5, sh, mz]
        · refine ⟨(c % 1000000000000000000 * 48271 + 16807 * k) % 2147483647 * 69621 % 2147483629, ?_⟩
          simp [-ixD_scr, -List.getD_eq_getElem?_getD, i0, hz, hz1, hs, modD_ok, hn, mdl, hix, pw, m1, m2, m3]
      · have hz : ¬ (0 : Int) < (ns.length : Int) - 1 := by omega
        have hz1 : ¬ (1 : Int) < (ns.length : Int) := by omega
        refine ⟨(c % 1000000000000000000 * 48271 + 16807 * k) % 2147483647 * 69621 % 2147483629, ?_⟩
        simp [-ixD_scr, -Int.not_lt, hz, hz1, hn, modD_ok, mdl, hix, pw, m1, m2, m3]
    · have hz : ¬ (0 : Int) < (ns.length : Int) - 1 := by omega
      have hz1 : ¬ (1 : Int) < (ns.length : Int) := by omega
      refine ⟨(0 * 48271 + 16807 * k) % 2147483647 * 69621 % 2147483629, ?_⟩
      simp [-Int.not_lt, -Nat.not_lt, hz, hz1, hn, modD_ok, pw, m1, m2, m3]
  obtain ⟨c, e⟩ := go
  exact ⟨c, runD_rt rfl e⟩
theorem q_elements_ok {rs : List Int} (h : OkR rs) (hb : ∀ n ∈ rs, n ≤ 144) (hp : rs.foldl (· * ·) 1 ≤ 144) : d_q_elements [tuI rs] = .ok (.lst ((mems rs).map tuI)) := by
  have l7 := h.len
  -- one element made longer
  have c1 : ∀ (n : Int) (x : List Int) (s1 s2 s3 s4 : Slot), 2 ≤ n → n ≤ 144 → x.length < 1000 → q_elements_c1 [s1, s2, .sh (.int n), s3, .sh (tuI x), s4] (rangeL 0 n.toNat) = .ok (((List.range n.toNat).map fun i : Nat => x ++ [(i : Int)]).map tuI) := fun n x s1 s2 s3 s4 h2 h3 hx => by
    unfold q_elements_c1
    rw [List.map_map]
    refine lcD_range _ fun k hk => ⟨rfl, ?_⟩
    have hl : x.length + 1 ≤ lim := by unfold lim; omega
    have l1 : 1 ≤ lim := by decide
    simp [wipeR, hl, l1]
  have bound : ∀ (l : List Int) (S : List (List Int)), (∀ n ∈ l, 2 ≤ n) → S.length ≤ (l.foldl memsStep S).length := fun l => by
    induction l with
    | nil => intro S _; exact Nat.le_refl _
    | cons n l ih =>
      intro S hl
      have := ih (memsStep S n) fun m hm => hl m (List.mem_cons_of_mem _ hm)
      have hn := hl n List.mem_cons_self
      rw [step_len] at this
      have : S.length * 1 ≤ S.length * n.toNat := Nat.mul_le_mul_left _ (by omega)
      rw [List.foldl_cons]
      omega
  have tot : (mems rs).length ≤ 144 := by
    have := mems_len (rs := rs) fun n hn => by have := h.two n hn; omega
    omega
  obtain ⟨r', loop, s2, s3, s4, rfl⟩ := forD_row (pre0 := rs) (f := q_elements_l3) D.int (fun pre r => ∃ s2 s3 s4, r = [.sh (tuI rs), .sh (.lst ((mems pre).map tuI)), s2, s3, s4, .un]) (ds := rs) (pre := []) (r := [.sh (tuI rs), .sh (.lst [.tup []]), .un, .un, .un, .un]) (fun pre n hpre r ⟨s2, s3, s4, e⟩ => by
    subst e
    obtain ⟨post, hpost⟩ := hpre
    have hn : n ∈ rs := by rw [← hpost]; simp
    have n2 := h.two n hn
    have n3 := hb n hn
    have lenp : pre.length < 1000 := by
      have := congrArg List.length hpost
      simp at this
      omega
    have elen : ∀ x ∈ mems pre, x.length < 1000 := fun x hx => by
      have := (mem_mems.mp hx).len
      omega
    have small : (memsStep (mems pre) n).length ≤ 144 := by
      have e : mems rs = post.foldl memsStep (memsStep (mems pre) n) := by
        unfold mems
        rw [← hpost, List.foldl_append, List.foldl_append]
        rfl
      have := bound post (memsStep (mems pre) n) fun m hm => h.two m (by rw [← hpost]; simp [hm])
      rw [← e] at this
      omega
    have r1 : rng1 [.int n] = .ok (rangeL 0 n.toNat) := rng1_ok (by omega) (by omega)
    obtain ⟨r2, in2, t4, rfl⟩ := forD_row (pre0 := mems pre) (f := q_elements_l2) tuI (fun done r => ∃ t4, r = [.sh (tuI rs), .sh (.lst ((mems pre).map tuI)), .sh (.int n), .ow .flat (.lst ((memsStep done n).map tuI)), t4, .un]) (ds := mems pre) (pre := []) (r := [.sh (tuI rs), .sh (.lst ((mems pre).map tuI)), .sh (.int n), .ow .flat (.lst []), s4, .un]) (fun done x hd r ⟨t4, e⟩ => by
      subst e
      obtain ⟨rest, hr⟩ := hd
      have hx : x ∈ mems pre := by rw [← hr]; simp
      have eq : memsStep (done ++ [x]) n = memsStep done n ++ (List.range n.toNat).map fun i : Nat => x ++ [(i : Int)] := by
        unfold memsStep
        simp
      have le : (memsStep done n).length + ((List.range n.toNat).map fun i : Nat => x ++ [(i : Int)]).length ≤ lim := by
        rw [← List.length_append, ← eq, step_len]
        rw [step_len, ← hr] at small
        simp at small
        have : (done ++ [x]).length * n.toNat ≤ (done.length + (rest.length + 1)) * n.toNat := Nat.mul_le_mul_right _ (by simp)
        unfold lim
        omega
      have q := c1 n x (.sh (tuI rs)) (.sh (.lst ((mems pre).map tuI))) (.ow .flat (.lst ((memsStep done n).map tuI))) .un n2 n3 (elen x hx)
      have l0 : ((List.range n.toNat).map fun i : Nat => x ++ [(i : Int)]).length ≤ lim := by omega
      generalize ((List.range n.toNat).map fun i : Nat => x ++ [(i : Int)]) = L at *
      refine ⟨_, ?_, .sh (tuI x), rfl⟩
      rw [eq]
      simp [q_elements_l2, extG, ownL, r1, q, le, l0]) rfl ⟨_, rfl⟩
    refine ⟨[.sh (tuI rs), .sh (.lst ((mems (pre ++ [n])).map tuI)), .sh (.int n), .sh (.lst ((memsStep (mems pre) n).map tuI)), t4, .un], ?_, _, _, _, rfl⟩
    have eq : mems (pre ++ [n]) = memsStep (mems pre) n := by unfold mems; rw [List.foldl_append]; rfl
    simp only [List.nil_append] at in2
    rw [eq]
    simp [q_elements_l3, in2, freeze]) rfl ⟨_, _, _, rfl⟩
  simp only [List.nil_append] at loop
  refine runD_rt rfl ?_
  simp only [startD, N_q_elements, List.length_cons, List.length_nil, List.map_cons, List.map_nil, Nat.reduceAdd, Nat.reduceSub, Nat.zero_add, List.replicate, List.cons_append, List.nil_append]
  have l0 : 0 ≤ lim := by decide
  have l1 : 1 ≤ lim := by decide
  simp [e_q_elements, loop, l0, l1]
theorem q_plus_ok {rs x y : List Int} (h : OkR rs) (h1 : x.length = rs.length) (h2 : y.length = rs.length) : d_q_plus [tuI rs, tuI x, tuI y] = .ok (tuI (putV rs x y)) := by
  refine runD_rt rfl ?_
  simp only [startD, N_q_plus, List.length_cons, List.length_nil, List.map_cons, List.map_nil, Nat.reduceAdd, Nat.reduceSub, Nat.zero_add, List.replicate, List.cons_append, List.nil_append]
  have c : q_plus_c1 [.sh (tuI rs), .sh (tuI x), .sh (tuI y), .un, .un, .un] (zipL3 (x.map .int) (y.map .int) (rs.map .int)) = .ok ((putV rs x y).map .int) := by
    unfold q_plus_c1 putV
    rw [List.map_map]
    refine lcD_zip3 _ fun p hp => ⟨rfl, ?_⟩
    have q : (2 : Int) ≤ p.2.2 := h.two _ (List.of_mem_zip (List.of_mem_zip hp).2).2
    simp [wipeR, modD_ok (show 0 < p.2.2 by omega)]
  have z : zip3D [tuI x, tuI y, tuI rs] = .ok (zipL3 (x.map .int) (y.map .int) (rs.map .int)) := rfl
  have l7 := h.len
  have hl : (putV rs x y).length ≤ lim := by rw [putV_len h1 h2]; unfold lim; omega
  simp [e_q_plus, z, c, hl]
section
variable {α : Type} [DecidableEq α] {h : Nat} {V : α → D} {Q : α → NestedKey} {els : List α} {put : α → α → α} {back : α → α} {zero : α} {gs : List (α × Nat)}
def thereL (put : α → α → α) (zero : α) (gs : List (α × Nat)) : List (α × List Int) := (mems (rndG gs)).map fun v => (comG put zero v gs, v)
/-- where an element is led to -/
def psiG (put : α → α → α) (zero : α) (gs : List (α × Nat)) (x : α) : List Int := (lookA (thereL put zero gs) x).getD []
theorem PlainG.psi (L : GrpG h V els put back zero) (P : PlainG els put zero gs) {v : List Int} (hv : OkE (rndG gs) v) : lookA (thereL put zero gs) (comG put zero v gs) = some v ∧ psiG put zero gs (comG put zero v gs) = v := by
  have e : lookA (thereL put zero gs) (comG put zero v gs) = some v := by
    refine lookA_mem ?_ (List.mem_map.mpr ⟨v, mem_mems.mpr hv, rfl⟩)
    unfold thereL
    rw [List.map_map]
    exact P.nd L
  refine ⟨e, ?_⟩
  unfold psiG
  rw [e]
  rfl
theorem PlainG.psi_el (L : GrpG h V els put back zero) (P : PlainG els put zero gs) {x : α} (hx : x ∈ els) : OkE (rndG gs) (psiG put zero gs x) ∧ comG put zero (psiG put zero gs x) gs = x ∧ lookA (thereL put zero gs) x = some (psiG put zero gs x) := by
  obtain ⟨v, hv, rfl⟩ := P.cov x hx
  obtain ⟨a, b⟩ := P.psi L hv
  rw [b]
  exact ⟨hv, rfl, a⟩
theorem PlainG.psi_put (L : GrpG h V els put back zero) (cm : ∀ a ∈ els, ∀ b ∈ els, put a b = put b a) (P : PlainG els put zero gs) {x y : α} (hx : x ∈ els) (hy : y ∈ els) : psiG put zero gs (put x y) = putV (rndG gs) (psiG put zero gs x) (psiG put zero gs y) := by
  obtain ⟨v, hv, rfl⟩ := P.cov x hx
  obtain ⟨w, hw, rfl⟩ := P.cov y hy
  have gE : ∀ p ∈ gs, p.1 ∈ els ∧ OrdG put zero p.1 p.2 := fun p hp => ⟨(P.g p hp).1, (P.g p hp).2.1⟩
  rw [← com_put L cm gE hv hw, (P.psi L hv).2, (P.psi L hw).2]
  exact (P.psi L (put_el (P.okG L).ok hv.len hw.len)).2
theorem thereL_perm (L : GrpG h V els put back zero) (P : PlainG els put zero gs) : ((thereL put zero gs).map (·.1)).Perm els := by
  unfold thereL
  rw [List.map_map]
  exact P.perm L
/-- the told dicts -/
def thD (V : α → D) (put : α → α → α) (zero : α) (gs : List (α × Nat)) : D := dicA V tuI (thereL put zero gs)
def bkD (V : α → D) (put : α → α → α) (zero : α) (gs : List (α × Nat)) : D := dicF tuI V (mems (rndG gs)) fun v => comG put zero v gs
theorem PlainG.th_ix (L : GrpG h V els put back zero) (K : KeyE V Q) (P : PlainG els put zero gs) {x : α} (hx : x ∈ els) : ixD (thD V put zero gs) (V x) = .ok (tuI (psiG put zero gs x)) := ixD_A K _ _ (P.psi_el L hx).2.2
theorem bk_ix {v : List Int} (hv : OkE (rndG gs) v) : ixD (bkD V put zero gs) (tuI v) = .ok (V (comG put zero v gs)) := ixD_A keyE _ _ (lookA_map (fun v => comG put zero v gs) (mem_mems.mpr hv))
end
def leII (p q : Int × Int) : Bool := decide (p.1 < q.1 ∨ (p.1 = q.1 ∧ p.2 ≤ q.2))
def insP (x : Int × Int) : List (Int × Int) → List (Int × Int)
  | [] => [x]
  | y :: ys => if leII x y = true then x :: y :: ys else y :: insP x ys
def isortP : List (Int × Int) → List (Int × Int)
  | [] => []
  | x :: xs => insP x (isortP xs)
theorem insP_perm (x : Int × Int) : ∀ ys, (insP x ys).Perm (x :: ys)
  | [] => List.Perm.refl _
  | y :: ys => by
    unfold insP
    split
    · exact List.Perm.refl _
    · exact ((insP_perm x ys).cons y).trans (List.Perm.swap _ _ _)
theorem isortP_perm : ∀ xs, (isortP xs).Perm xs
  | [] => List.Perm.refl _
  | x :: xs => (insP_perm x (isortP xs)).trans ((isortP_perm xs).cons x)
theorem leII_tot (p q : Int × Int) (h : ¬ leII p q = true) : leII q p = true := by
  unfold leII at *
  simp only [decide_eq_true_eq] at *
  omega
theorem leII_tr (p q r : Int × Int) (h : leII p q = true) (h2 : leII q r = true) : leII p r = true := by
  unfold leII at *
  simp only [decide_eq_true_eq] at *
  omega
theorem leII_anti (p q : Int × Int) (h : leII p q = true) (h2 : leII q p = true) : p = q := by
  unfold leII at *
  simp only [decide_eq_true_eq] at *
  exact Prod.ext (by omega) (by omega)
theorem insP_up (x : Int × Int) : ∀ {ys : List (Int × Int)}, ys.Pairwise (fun a b => leII a b = true) → (insP x ys).Pairwise fun a b => leII a b = true
  | [], _ => List.pairwise_singleton _ _
  | y :: ys, h => by
    obtain ⟨h1, h2⟩ := List.pairwise_cons.mp h
    unfold insP
    split
    · rename_i hl
      refine List.pairwise_cons.mpr ⟨fun z hz => ?_, h⟩
      rcases List.mem_cons.mp hz with rfl | hz
      · exact hl
      · exact leII_tr _ _ _ hl (h1 z hz)
    · rename_i hl
      refine List.pairwise_cons.mpr ⟨fun z hz => ?_, insP_up x h2⟩
      rcases List.mem_cons.mp ((insP_perm x ys).mem_iff.mp hz) with rfl | hz
      · exact leII_tot _ _ hl
      · exact h1 z hz
theorem isortP_up : ∀ xs, (isortP xs).Pairwise fun a b => leII a b = true
  | [] => List.Pairwise.nil
  | x :: xs => insP_up x (isortP_up xs)
/-- a list of pairs of whole numbers sorted -/
theorem sorted_pairsX (L : List (Int × Int)) : sortedX (.lst (L.map ikD)) = .ok (.lst ((isortP L).map ikD)) := by
  have h : ∀ p : Int × Int, toPy (ikD p) = some (.tuple [.int p.1, .int p.2]) := fun _ => rfl
  have sb : sortB (L.map fun p : Int × Int => PyData.tuple [.int p.1, .int p.2]) = true := by
    unfold sortB
    rw [Bool.and_eq_true, Bool.and_eq_true]
    refine ⟨List.all_eq_true.mpr fun d hd => List.all_eq_true.mpr fun d' hd' => ?_, List.all_eq_true.mpr fun d hd => ?_, List.all_eq_true.mpr fun d hd => ?_⟩
    · obtain ⟨a, ha, rfl⟩ := List.mem_map.mp hd
      obtain ⟨b, hb, rfl⟩ := List.mem_map.mp hd'
      rfl
    · obtain ⟨a, ha, rfl⟩ := List.mem_map.mp hd
      rfl
    · obtain ⟨a, ha, rfl⟩ := List.mem_map.mp hd
      rfl
  have ms : ((L.map fun a => (ikD a, PyData.tuple [.int a.1, .int a.2])).mergeSort (PySem.W.dataLe false (·.2))).map (·.1) = (L.mergeSort (PySem.W.dataLe false fun a => .tuple [.int a.1, .int a.2])).map ikD := by
    have := (List.map_mergeSort (f := fun a : Int × Int => (ikD a, PyData.tuple [.int a.1, .int a.2])) (r := PySem.W.dataLe false fun a => .tuple [.int a.1, .int a.2]) (s := PySem.W.dataLe false (·.2)) (l := L) fun a _ b _ => rfl)
    rw [← this, List.map_map]
    rfl
  have dl : (PySem.W.dataLe false fun a : Int × Int => PyData.tuple [.int a.1, .int a.2]) = leII := by
    rw [PySem.W.dataLe_ii]
    rfl
  rw [dl] at ms
  have pw : (L.mergeSort leII).Pairwise (fun a b => leII a b = true) := List.pairwise_mergeSort (fun a b c h1 h2 => leII_tr a b c h1 h2) (fun a b => by
    rw [Bool.or_eq_true]
    by_cases h : leII a b = true
    · exact .inl h
    · exact .inr (leII_tot _ _ h)) L
  have e : L.mergeSort leII = isortP L := perm_eqB (fun a _ b _ => leII_anti a b) pw (isortP_up L) ((List.mergeSort_perm L _).trans (isortP_perm L).symm)
  unfold sortedX
  simp only [toPys_mapB h, sb, if_true, zip_mapsB]
  rw [ms, e]
def pairsOfD : List D → Option (List (Int × Int))
  | [] => some []
  | .tup [.int a, .int b] :: ds => (pairsOfD ds).map fun l => (a, b) :: l
  | _ => none
theorem pairsOfD_some : ∀ {ds : List D} {l : List (Int × Int)}, pairsOfD ds = some l → ds = l.map ikD := fun {ds} => by
  induction ds with
  | nil => intro l h; cases h; rfl
  | cons d ds ih =>
    intro l h
    unfold pairsOfD at h
    split at h
    · rename_i e; cases e
    · rename_i a b ds' e
      cases e
      cases e2 : pairsOfD ds with
      | none => rw [e2] at h; cases h
      | some m =>
        rw [e2] at h
        cases h
        rw [ih e2]
        rfl
    · cases h
/-- sorted(), pairs of whole numbers by hand -/
def sortedP (d : D) : Res D := match d with
  | .lst xs => match pairsOfD xs with
    | some L => .ok (.lst ((isortP L).map ikD))
    | none => sortedX d
  | _ => sortedX d
theorem sortedP_eq : sortedP = sortedX := funext fun d => by
  unfold sortedP
  split
  · rename_i xs
    split
    · rename_i L h
      rw [pairsOfD_some h, sorted_pairsX]
    · rfl
  · rfl
def q_dueP_w3 : Env → Oc := fun r => ((lift (.ok (.int 1)) r fun d => .nx (r.set 4 (.sh d))).seq fun r => ((lift (((getR 1 r) >>= fun d => (.ok []) >>= fun ds => .ok (d :: ds)) >>= one sortedP) r fun d => .nx (r.set 5 (.sh d))).seq fun r => ((lift ((.ok []) >>= lstD) r fun d => .nx (r.set 1 (.ow .flat d))).seq fun r => ((lift (((getS 5 r) >>= fun d => (.ok []) >>= fun ds => .ok (d :: ds)) >>= enumS) r fun ds => forD (q_due_l2) ds r).seq fun r => (appG 3 (fun r => getS 4 r) r)))))
def e_q_dueP : Env → Oc := fun r => (lift ((.ok []) >>= lstD) r fun d => .nx (r.set 1 (.ow .flat d))).seq fun r => ((lift ((getS 0 r) >>= itemsD) r fun ds => forD (q_due_l1) ds r).seq fun r => ((lift ((.ok []) >>= lstD) r fun d => .nx (r.set 3 (.ow .flat d))).seq fun r => ((loopD q_due_w3c q_dueP_w3 r).seq fun r => (lift ((((getR 3 r) >>= revD) >>= fun d => (.ok []) >>= fun ds => .ok (d :: ds)) >>= one tupleD) r fun d => .rt d))))
def d_q_dueP : List D → Res D := runD 1 N_q_due.length e_q_dueP
theorem due_eq : d_q_due = d_q_dueP := by
  unfold d_q_due d_q_dueP e_q_due e_q_dueP q_due_w3 q_dueP_w3
  rw [sortedP_eq]
/-- the rounds that the law draws, step by step -/
def step21 (m : Nat) (S : List (List Int)) : List (List Int) := S.flatMap fun l => (List.range m).map fun i : Nat => if l.foldl (· * ·) (2 + (i : Int)) ≤ 144 then l ++ [2 + (i : Int)] else l
def great21 : List (List Int) := [[2, 2, 2, 2, 2, 2, 2], [2, 2, 2, 2, 3], [3, 3, 2, 2, 4], [12, 12], [2, 3, 4, 6], [6, 6, 4], [2, 2, 2, 2, 2, 2], [9, 16]]
def list21 : List (List Int) := great21 ++ ([[]] ++ (step21 11 [[]] ++ (step21 5 (step21 11 [[]]) ++ (step21 3 (step21 5 (step21 11 [[]])) ++ step21 3 (step21 3 (step21 5 (step21 11 [[]])))))))
/-- what is due, the greatest one first -/
def chain21 : List Nat → Bool
  | a :: b :: l => decide (b ∣ a) && chain21 (b :: l)
  | _ => true
def chk21 (rs : List Int) : Bool := match d_q_dueP [tuI rs] with
  | .ok (.tup ds) => match intsD ds with
    | some f => chain21 (f.map Int.toNat).reverse && (f.all fun n => decide (2 ≤ n)) && decide (f.foldl (· * ·) 1 = rs.foldl (· * ·) 1) && ((List.range 145).all fun n => !decide ((n : Int) ∣ rs.foldl (· * ·) 1) || decide (gcdP n (f.map Int.toNat) = gcdP n (rs.map Int.toNat)))
    | none => false
  | _ => false
theorem chk21_all : ∀ rs ∈ list21, chk21 rs = true := by decide +kernel
theorem nonneg21 {rs : List Int} (h : OkR rs) : ∀ n ∈ rs, 0 ≤ n := fun n hn => by have := h.two n hn; omega
theorem chain_pw : ∀ {l : List Nat}, chain21 l = true → l.Pairwise fun a b => b ∣ a
  | [], _ => .nil
  | [a], _ => List.pairwise_singleton _ _
  | a :: b :: l, h => by
    rw [chain21, Bool.and_eq_true] at h
    have ih := chain_pw h.2
    have hb := of_decide_eq_true h.1
    refine List.pairwise_cons.mpr ⟨fun c hc => ?_, ih⟩
    rcases List.mem_cons.mp hc with rfl | hc
    · exact hb
    · exact Nat.dvd_trans ((List.pairwise_cons.mp ih).1 c hc) hb
theorem list21_ok : ∀ rs ∈ list21, (∀ n ∈ rs, 2 ≤ n) ∧ rs.foldl (· * ·) 1 ≤ 144 := by decide +kernel
theorem okG21 {rs : List Int} (h : rs ∈ list21) : OkG rs := okG_prod (list21_ok rs h).1 (list21_ok rs h).2
theorem len_prod {rs : List Int} (g : OkG rs) : rs.foldl (· * ·) 1 = ((mems rs).length : Int) := (mems_len (nonneg21 g.ok)).symm
theorem due21 {rs : List Int} (h : rs ∈ list21) : ∃ F, d_q_due [tuI rs] = .ok (tuI F) ∧ ∀ gs, PlainG (mems rs) (putV rs) (zeroV rs) gs → rndG gs = F := by
  have c := chk21_all rs h
  have g := okG21 h
  rw [due_eq]
  unfold chk21 at c
  split at c
  · rename_i ds hd
    split at c
    · rename_i f hf
      rw [Bool.and_eq_true, Bool.and_eq_true, Bool.and_eq_true, List.all_eq_true, List.all_eq_true, decide_eq_true_eq] at c
      obtain ⟨⟨⟨c1, c2⟩, c3⟩, c4⟩ := c
      have ed := intsD_some hf
      subst ed
      refine ⟨f, hd, fun gs P => P.uniq (grpR g) commR (fun n hn => of_decide_eq_true (c2 n hn)) (chain_pw c1) (c3.trans (len_prod g)) fun n n1 hn => ?_⟩
      have hl : (mems rs).length ≤ 144 := (grpR g).len
      have h1 : 1 ≤ (mems rs).length := List.length_pos_of_mem (grpR g).zeroE
      have hle := Nat.le_of_dvd h1 hn
      have := c4 n (List.mem_range.mpr (by omega))
      rw [Bool.or_eq_true, Bool.not_eq_true', decide_eq_false_iff_not, decide_eq_true_eq, len_prod g] at this
      rw [count_rounds g.ok.two]
      rcases this with z | z
      · exact absurd (Int.natCast_dvd_natCast.mpr hn) z
      · exact z
    · cases c
  · cases c
theorem mul_foldl (n : Int) (l : List Int) : ∀ {s1 s2 s3 s4 s5 : Slot} (m : Int) (s6 : Slot), isOw s6 = false → (∀ x ∈ l, 0 ≤ x ∧ x < 2 ^ 64) → ∃ s7, isOw s7 = false ∧ forD q_rounds_l1 (l.map D.int) [s1, s2, s3, s4, s5, .sh (.int m), s6] = .nx [s1, s2, s3, s4, s5, .sh (.int (l.foldl (· * ·) m)), s7] := by
  induction l with
  | nil => exact fun m s6 h _ => ⟨s6, h, rfl⟩
  | cons x l ih =>
    intro s1 s2 s3 s4 s5 m s6 _ h
    obtain ⟨h0, h1⟩ := h x List.mem_cons_self
    obtain ⟨s7, q7, e⟩ := ih (s1 := s1) (s2 := s2) (s3 := s3) (s4 := s4) (s5 := s5) (m * x) (.sh (.int x)) rfl fun y hy => h y (List.mem_cons_of_mem _ hy)
    refine ⟨s7, q7, ?_⟩
    have mm := mulD_small (i := m) (j := x) (.inr ⟨by omega, h1⟩)
    have st : q_rounds_l1 (.int x) [s1, s2, s3, s4, s5, .sh (.int m), s6] = .nx [s1, s2, s3, s4, s5, .sh (.int (m * x)), .sh (.int x)] := by
      simp [q_rounds_l1, nameG, mm]
    rw [List.map_cons, forD_cons, st, List.foldl_cons]
    exact e
def ms21 : List Nat := [11, 5, 3, 3]
def lev21 : Nat → List (List Int)
  | 0 => [[]]
  | k + 1 => step21 (ms21.getD k 0) (lev21 k)
theorem lev_in : ∀ k, k < 5 → ∀ l ∈ lev21 k, l ∈ list21 := by
  intro k hk l hl
  unfold list21
  match k, hk with
  | 0, _ => exact List.mem_append_right _ (List.mem_append_left _ hl)
  | 1, _ => exact List.mem_append_right _ (List.mem_append_right _ (List.mem_append_left _ hl))
  | 2, _ => exact List.mem_append_right _ (List.mem_append_right _ (List.mem_append_right _ (List.mem_append_left _ hl)))
  | 3, _ => exact List.mem_append_right _ (List.mem_append_right _ (List.mem_append_right _ (List.mem_append_right _ (List.mem_append_left _ hl))))
  | 4, _ => exact List.mem_append_right _ (List.mem_append_right _ (List.mem_append_right _ (List.mem_append_right _ (List.mem_append_right _ hl))))
theorem lev_small : ∀ k, k < 5 → ∀ l ∈ lev21 k, (∀ x ∈ l, 0 ≤ x ∧ x < 2 ^ 64) ∧ l.length ≤ 4 := by
  have : ∀ k, k < 5 → ∀ l ∈ lev21 k, (∀ x ∈ l, 0 ≤ x ∧ x < 100) ∧ l.length ≤ 4 := by decide +kernel
  intro k hk l hl
  obtain ⟨a, b⟩ := this k hk l hl
  exact ⟨fun x hx => ⟨(a x hx).1, by have := (a x hx).2; omega⟩, b⟩
theorem rounds_turn21 {ns : List Int} (hlen : ns.length ≤ 63) (k : Nat) (hk : k < 4) {l : List Int} (hl : l ∈ lev21 k) {s3 s4 s5 s6 : Slot} (n6 : isOw s6 = false) :
    ∃ l' ∈ lev21 (k + 1), ∃ t3 t4 t5 t6, isOw t6 = false ∧ q_rounds_l2 (.int (k : Nat)) [.sh (.scr ns), .un, .ow .flat (.lst (l.map D.int)), s3, s4, s5, s6] = .nx [.sh (.scr ns), .un, .ow .flat (.lst (l'.map D.int)), t3, t4, t5, t6] := by
  obtain ⟨c, hc⟩ := q_cell_ok ns (1 + (k : Nat)) (by omega) hlen (by omega)
  obtain ⟨sm, ln⟩ := lev_small k (by omega) l hl
  have mk : ∃ m : Nat, 0 < m ∧ ms21.getD k 0 = m ∧ ixD (.lst [.int 11, .int 5, .int 3, .int 3]) (.int (k : Nat)) = .ok (.int (m : Nat)) := by
    match k, hk with
    | 0, _ => exact ⟨11, by decide, rfl, rfl⟩
    | 1, _ => exact ⟨5, by decide, rfl, rfl⟩
    | 2, _ => exact ⟨3, by decide, rfl, rfl⟩
    | 3, _ => exact ⟨3, by decide, rfl, rfl⟩
  obtain ⟨m, m0, em, im⟩ := mk
  have hm0 := Int.emod_nonneg c (b := (m : Int)) (by omega)
  have hm1 := Int.emod_lt_of_pos c (b := (m : Int)) (by omega)
  have md := modD_ok (i := c) (j := (m : Int)) (by omega)
  obtain ⟨i, hi⟩ : ∃ i : Nat, c % (m : Int) = (i : Int) := ⟨(c % (m : Int)).toNat, by omega⟩
  rw [hi] at md hm1
  obtain ⟨s7, q7, lp⟩ := mul_foldl (2 + (i : Int)) l (s1 := .sh (.scr ns)) (s2 := .un) (s3 := .un) (s4 := .sh (.int (k : Nat))) (s5 := .sh (.int (2 + (i : Int)))) (2 + (i : Int)) s6 n6 sm
  refine ⟨if l.foldl (· * ·) (2 + (i : Int)) ≤ 144 then l ++ [2 + (i : Int)] else l, ?_, .sh (.int (k : Nat)), .sh (.int (2 + (i : Int))), .sh (.int (l.foldl (· * ·) (2 + (i : Int)))), s7, q7, ?_⟩
  · show _ ∈ step21 (ms21.getD k 0) (lev21 k)
    rw [em]
    exact List.mem_flatMap.mpr ⟨l, hl, List.mem_map.mpr ⟨i, List.mem_range.mpr (by omega), rfl⟩⟩
  · have so : soleO 2 [.sh (.scr ns), .un, .ow .flat (.lst (l.map D.int)), .sh (.int (k : Nat)), .sh (.int (2 + (i : Int))), .sh (.int (2 + (i : Int))), s6] = true := by
      have is : ∀ d, isOw (.sh d) = false := fun _ => rfl
      have iu : isOw .un = false := rfl
      simp [soleO, n6, is, iu]
    have hl2 : (l.map D.int).length < lim := by rw [List.length_map]; unfold lim; omega
    have e1 : (l ++ [2 + (i : Int)]).map D.int = l.map D.int ++ [.int (2 + (i : Int))] := by simp
    have hle : leD (.int (l.foldl (· * ·) (2 + (i : Int)))) (.int 144) = .ok (.bl (decide (l.foldl (· * ·) (2 + (i : Int)) ≤ 144))) := rfl
    have l4 : 4 ≤ lim := by decide
    by_cases h144 : l.foldl (· * ·) (2 + (i : Int)) ≤ 144
    · rw [if_pos h144, e1]
      rw [decide_eq_true h144] at hle
      generalize l.foldl (· * ·) (2 + (i : Int)) = P at *
      generalize l.map D.int = LL at *
      generalize (k : Int) = kk at *
      generalize hN : 2 + (i : Int) = N at *
      simp [q_rounds_l2, nameG, hc, im, md, hN, forH, so, lp, wrapH, hle, appG, ownL, hl2, l4, -ixD_lst]
    · rw [if_neg h144]
      rw [decide_eq_false h144] at hle
      generalize l.foldl (· * ·) (2 + (i : Int)) = P at *
      generalize l.map D.int = LL at *
      generalize (k : Int) = kk at *
      generalize hN : 2 + (i : Int) = N at *
      simp [q_rounds_l2, nameG, hc, im, md, hN, forH, so, lp, wrapH, hle, appG, ownL, hl2, l4, -ixD_lst]
theorem forD_range {f : D → Env → Oc} {n : Nat} (P : Nat → Env → Prop) {r : Env} (h : ∀ j, j < n → ∀ r, P j r → ∃ r', f (.int (j : Nat)) r = .nx r' ∧ P (j + 1) r') (h0 : P 0 r) : ∃ r', forD f (rangeL 0 n) r = .nx r' ∧ P n r' := by
  have hl : (rangeL 0 n).length = n := by simp [rangeL]
  obtain ⟨r', e, p⟩ := forD_ix (f := f) (ds := rangeL 0 n) P (fun i d hd r hr => by
    have hi : i < n := by
      have := (List.getElem?_eq_some_iff.mp hd).1
      omega
    have ed : d = .int (i : Nat) := by
      unfold rangeL at hd
      rw [List.getElem?_map, List.getElem?_range hi] at hd
      cases hd
      simp
    subst ed
    exact h i hi r hr) h0
  exact ⟨r', e, hl ▸ p⟩
theorem rounds21 {ns : List Int} (hlen : ns.length ≤ 63) : ∃ rs ∈ list21, d_q_rounds [.scr ns] = .ok (tuI rs) := by
  obtain ⟨c8, hc8⟩ := q_cell_ok ns 8 (by omega) hlen (by omega)
  obtain ⟨c0, hc0⟩ := q_cell_ok ns 0 (by omega) hlen (by omega)
  have m8 := modD_ok (i := c8) (j := 8) (by omega)
  have m5 := modD_ok (i := c0) (j := 5) (by omega)
  by_cases h3 : c8 % 8 = 3
  · have dv := divD_ok (i := c8) (j := 8) (by omega) (by decide)
    have m8' := modD_ok (i := c8 / 8) (j := 8) (by omega)
    have h0 := Int.emod_nonneg (c8 / 8) (b := 8) (by omega)
    have h1 := Int.emod_lt_of_pos (c8 / 8) (b := 8) (by omega)
    obtain ⟨i, hi⟩ : ∃ i : Nat, c8 / 8 % 8 = (i : Int) := ⟨(c8 / 8 % 8).toNat, by omega⟩
    rw [hi] at m8' h1
    have gl : ∀ i, i < 8 → ∃ rs ∈ great21, ixD (.lst (great21.map tuI)) (.int (i : Nat)) = .ok (tuI rs) := by
      intro i hi
      match i, hi with
      | 0, _ => exact ⟨_, by decide, rfl⟩
      | 1, _ => exact ⟨_, by decide, rfl⟩
      | 2, _ => exact ⟨_, by decide, rfl⟩
      | 3, _ => exact ⟨_, by decide, rfl⟩
      | 4, _ => exact ⟨_, by decide, rfl⟩
      | 5, _ => exact ⟨_, by decide, rfl⟩
      | 6, _ => exact ⟨_, by decide, rfl⟩
      | 7, _ => exact ⟨_, by decide, rfl⟩
    obtain ⟨rs, hrs, ix⟩ := gl i (by omega)
    refine ⟨rs, List.mem_append_left _ hrs, ?_⟩
    refine runD_rt rfl ?_
    simp only [startD, N_q_rounds, List.length_cons, List.length_nil, List.map_cons, List.map_nil, Nat.reduceAdd, Nat.reduceSub, Nat.zero_add, List.replicate, List.cons_append, List.nil_append]
    have g : great21.map tuI = [.tup (List.replicate 7 (.int 2)), .tup [.int 2, .int 2, .int 2, .int 2, .int 3], .tup [.int 3, .int 3, .int 2, .int 2, .int 4], .tup [.int 12, .int 12], .tup [.int 2, .int 3, .int 4, .int 6], .tup [.int 6, .int 6, .int 4], .tup (List.replicate 6 (.int 2)), .tup [.int 9, .int 16]] := rfl
    rw [g] at ix
    have u7 : mulD (.tup [.int 2]) (.int 7) = .ok (.tup (List.replicate 7 (.int 2))) := rfl
    have u6 : mulD (.tup [.int 2]) (.int 6) = .ok (.tup (List.replicate 6 (.int 2))) := rfl
    have l1 : 1 ≤ lim := by decide
    have l2 : 2 ≤ lim := by decide
    have l3 : 3 ≤ lim := by decide
    have l4 : 4 ≤ lim := by decide
    have l5 : 5 ≤ lim := by decide
    have l8 : 8 ≤ lim := by decide
    generalize List.replicate 7 (D.int 2) = R7 at *
    generalize List.replicate 6 (D.int 2) = R6 at *
    simp [e_q_rounds, hc8, m8, h3, u7, u6, l1, l2, l3, l4, l5, l8, dv, m8', ix, -ixD_lst]
  · have h0 := Int.emod_nonneg c0 (b := 5) (by omega)
    have h1 := Int.emod_lt_of_pos c0 (b := 5) (by omega)
    obtain ⟨k, hk⟩ : ∃ k : Nat, c0 % 5 = (k : Int) := ⟨(c0 % 5).toNat, by omega⟩
    rw [hk] at m5 h1
    have lp : ∀ k, k < 5 → ∃ l ∈ lev21 k, ∃ s3 s4 s5 s6, isOw s6 = false ∧ forD q_rounds_l2 (rangeL 0 k) [.sh (.scr ns), .un, .ow .flat (.lst []), .un, .un, .un, .un] = .nx [.sh (.scr ns), .un, .ow .flat (.lst (l.map D.int)), s3, s4, s5, s6] := by
      intro k hk
      obtain ⟨r', e, l, hl, s3, s4, s5, s6, n6, rfl⟩ := forD_range (n := k) (f := q_rounds_l2) (r := [.sh (.scr ns), .un, .ow .flat (.lst []), .un, .un, .un, .un]) (fun j r => ∃ l ∈ lev21 j, ∃ s3 s4 s5 s6, isOw s6 = false ∧ r = [.sh (.scr ns), .un, .ow .flat (.lst (l.map D.int)), s3, s4, s5, s6]) (fun j hj r ⟨l, hl, s3, s4, s5, s6, n6, hr⟩ => by
        subst hr
        obtain ⟨l', hl', t3, t4, t5, t6, n, e⟩ := rounds_turn21 hlen j (by omega) hl (s3 := s3) (s4 := s4) (s5 := s5) n6
        exact ⟨_, e, l', hl', t3, t4, t5, t6, n, rfl⟩) ⟨[], List.mem_singleton.mpr rfl, .un, .un, .un, .un, rfl, rfl⟩
      exact ⟨l, hl, s3, s4, s5, s6, n6, e⟩
    obtain ⟨l, hl, s3, s4, s5, s6, _, e⟩ := lp k (by omega)
    refine ⟨l, lev_in k (by omega) l hl, ?_⟩
    have ln := (lev_small k (by omega) l hl).2
    have tl := tuI_len l (by unfold lim; omega)
    have rk : rng1 [.int (k : Nat)] = .ok (rangeL 0 k) := by simp [rng1]; omega
    refine runD_rt rfl ?_
    simp only [startD, N_q_rounds, List.length_cons, List.length_nil, List.map_cons, List.map_nil, Nat.reduceAdd, Nat.reduceSub, Nat.zero_add, List.replicate, List.cons_append, List.nil_append]
    have l0 : 0 ≤ lim := by decide
    generalize l.map D.int = LL at *
    simp [e_q_rounds, hc8, m8, h3, hc0, m5, rk, e, tl, l0, -tupleD]
theorem ixD_pickP {xs : List D} (c : Int) (n : Int) (hn : n = (xs.length : Int)) (h : 0 < n) : ∃ d, d ∈ xs ∧ ixD (.lst xs) (.int (c % n)) = .ok d := by
  have h0 := Int.emod_nonneg c (b := n) (by omega)
  have h1 := Int.emod_lt_of_pos c (b := n) h
  have hl : (c % n).toNat < xs.length := by omega
  refine ⟨xs[(c % n).toNat], List.getElem_mem _, ?_⟩
  rw [ixD_lst, atI_int _ _ h0 (by omega), List.getElem?_eq_getElem hl]
theorem mems_pickP {up : List Int} (t2 : OkG up) (c : Int) : ∃ x, OkE up x ∧ modD (.int c) (.int ((mems up).length : Nat)) = .ok (.int (c % ((mems up).length : Nat))) ∧ ixD (.lst ((mems up).map tuI)) (.int (c % ((mems up).length : Nat))) = .ok (tuI x) := by
  have hp : 0 < (mems up).length := List.length_pos_of_mem (mem_mems.mpr (zero_el t2.ok))
  obtain ⟨d, hd, e⟩ := ixD_pickP (xs := (mems up).map tuI) c ((mems up).length : Nat) (by simp) (by omega)
  obtain ⟨x, hx, rfl⟩ := List.mem_map.mp hd
  exact ⟨x, mem_mems.mp hx, modD_ok (by omega), e⟩
theorem okQ_lstT (l : List (List Int)) : okQ 64 (.lst (l.map tuI)) = true := by
  show (l.map tuI).all (okQ 63) = true
  rw [List.all_eq_true]
  intro d hd
  obtain ⟨x, _, rfl⟩ := List.mem_map.mp hd
  exact okQ_tI 62 x
theorem neD_self {d : D} (h : okQ 64 d = true) : neD d d = .ok (.bl false) := by rw [neD_ok h h, eqQ_refl 64 _ h]; rfl
theorem eqD_self {d : D} (h : okQ 64 d = true) : eqD d d = .ok (.bl true) := by rw [eqD_ok h h, eqQ_refl 64 _ h]
theorem headOk {rs : List Int} (h : OkR rs) (k : Nat) : OkE rs (headV rs.length k) := by
  refine ⟨headV_len _ _, fun p hp => ?_⟩
  obtain ⟨i, hi, rfl⟩ := List.mem_iff_getElem.mp hp
  rw [List.getElem_zip]
  have h2 : 2 ≤ rs[i]'(by simp at hi; omega) := h.two _ (List.getElem_mem _)
  have e : (headV rs.length k)[i]'(by simp at hi; rw [headV_len]; omega) = if i = k then 1 else 0 := by simp [headV]
  simp only [e]
  split <;> omega
theorem int_ofP (k a : Nat) : ((eqD (.int (k : Nat)) (.int (a : Nat))) >>= fun d => intD d) = .ok (.int (if k = a then 1 else 0)) := by
  have e : eqD (.int (k : Nat)) (.int (a : Nat)) = .ok (.bl (decide (((k : Nat) : Int) = ((a : Nat) : Int)))) := by simp
  rw [e]
  by_cases h : k = a
  · subst h; simp [intD]
  · have h' : ¬ ((k : Nat) : Int) = ((a : Nat) : Int) := by omega
    simp [intD, h, h']
section
variable {rs ns : List Int} {gs : List (List Int × Nat)}
theorem c1_21 (g : OkG rs) (P : PlainG (mems rs) (putV rs) (zeroV rs) gs) (s0 s1 s2 s3 s6 s7 s8 s9 s10 s11 s12 s13 : Slot) : q_leads_c1 [s0, s1, s2, s3, .sh (thD tuI (putV rs) (zeroV rs) gs), .sh (bkD tuI (putV rs) (zeroV rs) gs), s6, s7, s8, s9, s10, s11, s12, s13] ((mems rs).map tuI) = .ok ((mems rs).map fun _ => .bl false) := by
  unfold q_leads_c1
  refine lcD_one tuI (fun _ => .bl false) fun x hx => ⟨rfl, ?_⟩
  obtain ⟨p1, p2, p3⟩ := P.psi_el (grpR g) hx
  have e1 := P.th_ix (grpR g) keyE hx
  have e2 := bk_ix (V := tuI) (put := putV rs) (zero := zeroV rs) p1
  rw [p2] at e2
  have e3 := neD_self (okQ_tI 63 x)
  generalize thD tuI (putV rs) (zeroV rs) gs = TH at *
  generalize bkD tuI (putV rs) (zeroV rs) gs = BK at *
  generalize tuI (psiG (putV rs) (zeroV rs) gs x) = A at *
  generalize tuI x = X at *
  simp [wipeR, e1, e2, e3]
theorem c3_21 (h : OkR rs) (s1 s2 s3 s4 s5 s6 s7 s8 s9 s10 s11 s12 s13 : Slot) : q_leads_c3 [.sh (tuI rs), s1, s2, s3, s4, s5, s6, s7, s8, s9, s10, s11, s12, s13] (rangeL 0 rs.length) = .ok ((List.range rs.length).map fun k => tuI (headV rs.length k)) := by
  unfold q_leads_c3
  have hlen := h.len
  refine lcD_range (fun k => tuI (headV rs.length k)) fun k hk => ⟨rfl, ?_⟩
  have ln : lenD (tuI rs) = .ok (.int (rs.length : Nat)) := by show Res.ok (D.int ((rs.map D.int).length : Nat)) = _; rw [List.length_map]
  have rg : rng1 [.int (rs.length : Nat)] = .ok (rangeL 0 rs.length) := by simp [rng1]; omega
  have c2 : ∀ s7 s8 s9 s10 s11 s13, q_leads_c2 [.sh (tuI rs), s1, s2, s3, s4, s5, s6, s7, s8, s9, s10, s11, .sh (.int (k : Nat)), s13] (rangeL 0 rs.length) = .ok ((headV rs.length k).map D.int) := fun s7 s8 s9 s10 s11 s13 => by
    unfold q_leads_c2 headV
    rw [List.map_map]
    refine lcD_range (fun j => D.int (if j = k then 1 else 0)) fun j hj => ⟨rfl, ?_⟩
    have := int_ofP j k
    simp [wipeR]
    simpa using this
  have tl := tuI_len (headV rs.length k) (by rw [headV_len]; unfold lim; omega)
  have hl : ((headV rs.length k).map D.int).length ≤ lim := by rw [List.length_map, headV_len]; unfold lim; omega
  have c2 := c2 s7 s8 s9 s10 s11 s13
  generalize (headV rs.length k).map D.int = HD at *
  generalize tuI (headV rs.length k) = TT at *
  generalize tuI rs = RR at *
  simp [-tupleD, wipeR, ln, rg, c2, lstD, hl, tl]
end
section
variable {rs ns : List Int} {gs : List (List Int × Nat)}
def okPL (rs : List Int) (L : List (List Int × List Int)) : Prop := ∀ p ∈ L, p.1 ∈ mems rs ∧ p.2 ∈ mems rs
theorem l5_21 (g : OkG rs) {s0 s1 s2 s3 s4 s5 s7 s10 s11 s12 : Slot} : ∀ {hs : List (List Int)} {L : List (List Int × List Int)} {s9 : Slot}, (∀ x ∈ hs, x ∈ mems rs) → L.length + hs.length * 144 ≤ 1200 → okPL rs L → ∃ L' s9', okPL rs L' ∧ L'.length ≤ L.length + hs.length * 144 ∧ forD q_leads_l5 (hs.map tuI) [s0, s1, s2, s3, s4, s5, .sh (.lst ((mems rs).map tuI)), s7, .ow .flat (.lst (L.map pkD)), s9, s10, s11, s12, .un] = .nx [s0, s1, s2, s3, s4, s5, .sh (.lst ((mems rs).map tuI)), s7, .ow .flat (.lst (L'.map pkD)), s9', s10, s11, s12, .un]
  | [], L, s9, _, _, ho => ⟨L, s9, ho, by simp, rfl⟩
  | x :: hs, L, s9, hx, hl, ho => by
    have l144 : (mems rs).length ≤ 144 := (grpR g).len
    have hx0 := hx x List.mem_cons_self
    rw [List.length_cons] at hl
    obtain ⟨L', s9', o', hl', e⟩ := l5_21 g (s0 := s0) (s1 := s1) (s2 := s2) (s3 := s3) (s4 := s4) (s5 := s5) (s7 := s7) (s10 := s10) (s11 := s11) (s12 := s12) (hs := hs) (L := L ++ (mems rs).map fun y => (x, y)) (s9 := .sh (tuI x)) (fun y hy => hx y (List.mem_cons_of_mem _ hy)) (by rw [List.length_append, List.length_map]; omega) (fun p hp => by
      rcases List.mem_append.mp hp with h | h
      · exact ho p h
      · obtain ⟨y, hy, rfl⟩ := List.mem_map.mp h
        exact ⟨hx0, hy⟩)
    refine ⟨L', s9', o', by rw [List.length_append, List.length_map] at hl'; rw [List.length_cons]; omega, ?_⟩
    have c4 : q_leads_c4 [s0, s1, s2, s3, s4, s5, .sh (.lst ((mems rs).map tuI)), s7, .ow .flat (.lst (L.map pkD)), .sh (tuI x), s10, s11, s12, .un] ((mems rs).map tuI) = .ok ((mems rs).map fun y => pkD (x, y)) := by
      unfold q_leads_c4
      refine lcD_one tuI (fun y => pkD (x, y)) fun y _ => ⟨rfl, ?_⟩
      have l2 : 2 ≤ lim := by decide
      have ep : pkD (x, y) = .tup [tuI x, tuI y] := rfl
      rw [ep]
      generalize tuI x = X at *
      generalize tuI y = Y at *
      simp [wipeR, l2]
    have h1 : ((mems rs).map fun y => pkD (x, y)).length ≤ lim := by rw [List.length_map]; unfold lim; omega
    have h2 : (L.map pkD).length + ((mems rs).map fun y => pkD (x, y)).length ≤ lim := by rw [List.length_map, List.length_map]; unfold lim; omega
    have e2 : (L ++ (mems rs).map fun y => (x, y)).map pkD = L.map pkD ++ (mems rs).map fun y => pkD (x, y) := by rw [List.map_append, List.map_map]; rfl
    rw [e2] at e
    have st : q_leads_l5 (tuI x) [s0, s1, s2, s3, s4, s5, .sh (.lst ((mems rs).map tuI)), s7, .ow .flat (.lst (L.map pkD)), s9, s10, s11, s12, .un] = .nx [s0, s1, s2, s3, s4, s5, .sh (.lst ((mems rs).map tuI)), s7, .ow .flat (.lst (L.map pkD ++ (mems rs).map fun y => pkD (x, y))), .sh (tuI x), s10, s11, s12, .un] := by
      generalize ((mems rs).map fun y => pkD (x, y)) = R at *
      generalize L.map pkD = LL at *
      generalize (mems rs).map tuI = MM at *
      generalize tuI x = X at *
      simp [q_leads_l5, nameG, Mir.extG, ownL, c4, lstD, h1, h2]
    rw [List.map_cons, forD_cons, st]
    exact e
theorem l6_21 (g : OkG rs) (hlen : ns.length ≤ 63) {s0 s1 s3 s4 s5 s7 s9 s12 s13 : Slot} {L : List (List Int × List Int)} (hl : L.length ≤ 1200) (ho : okPL rs L) : ∃ L' s10 s11, okPL rs L' ∧ forD q_leads_l6 (rangeL 0 20) [s0, s1, .sh (.scr ns), s3, s4, s5, .sh (.lst ((mems rs).map tuI)), s7, .ow .flat (.lst (L.map pkD)), s9, .un, .un, s12, s13] = .nx [s0, s1, .sh (.scr ns), s3, s4, s5, .sh (.lst ((mems rs).map tuI)), s7, .ow .flat (.lst (L'.map pkD)), s9, s10, s11, s12, s13] ∧ L'.length ≤ 1300 := by
  obtain ⟨r', e, L', s10, s11, o', hl', rfl⟩ := forD_range (f := q_leads_l6) (n := 20) (r := [s0, s1, .sh (.scr ns), s3, s4, s5, .sh (.lst ((mems rs).map tuI)), s7, .ow .flat (.lst (L.map pkD)), s9, .un, .un, s12, s13]) (fun j r => ∃ L' s10 s11, okPL rs L' ∧ L'.length ≤ 1200 + j ∧ r = [s0, s1, .sh (.scr ns), s3, s4, s5, .sh (.lst ((mems rs).map tuI)), s7, .ow .flat (.lst (L'.map pkD)), s9, s10, s11, s12, s13]) (fun j hj r ⟨L', s10, s11, o', hl', hr⟩ => by
    subst hr
    obtain ⟨c, hc⟩ := q_cell_ok ns (30 + 2 * (j : Int)) (by omega) hlen (by omega)
    obtain ⟨d, hd⟩ := q_cell_ok ns (31 + 2 * (j : Int)) (by omega) hlen (by omega)
    obtain ⟨x, hx, x1, x2⟩ := mems_pickP g c
    obtain ⟨y, hy, y1, y2⟩ := mems_pickP g d
    have ln : lenD (.lst ((mems rs).map tuI)) = .ok (.int ((mems rs).length : Nat)) := by show Res.ok (D.int (((mems rs).map tuI).length : Nat)) = _; rw [List.length_map]
    have mm := mulD_small (i := 2) (j := (j : Int)) (.inr ⟨by omega, by omega⟩)
    have l2 : 2 ≤ lim := by decide
    have h2 : (L'.map pkD).length < lim := by rw [List.length_map]; unfold lim; omega
    refine ⟨[s0, s1, .sh (.scr ns), s3, s4, s5, .sh (.lst ((mems rs).map tuI)), s7, .ow .flat (.lst ((L' ++ [(x, y)]).map pkD)), s9, .sh (.int (j : Nat)), .sh (tuI x), s12, s13], ?_, L' ++ [(x, y)], .sh (.int (j : Nat)), .sh (tuI x), fun p hp => ?_, by rw [List.length_append, List.length_singleton]; omega, rfl⟩
    · rw [List.map_append, List.map_cons, List.map_nil]
      show _ = Oc.nx [s0, s1, .sh (.scr ns), s3, s4, s5, .sh (.lst ((mems rs).map tuI)), s7, .ow .flat (.lst (L'.map pkD ++ [.tup [tuI x, tuI y]])), s9, .sh (.int (j : Nat)), .sh (tuI x), s12, s13]
      generalize L'.map pkD = LL at *
      generalize (mems rs).map tuI = MM at *
      generalize ((mems rs).length : Int) = N at *
      generalize tuI x = X at *
      generalize tuI y = Y at *
      generalize (j : Int) = J at *
      simp [q_leads_l6, nameG, hc, hd, mm, ln, x1, x2, y1, y2, appG, ownL, l2, h2, -ixD_lst]
    · rcases List.mem_append.mp hp with h | h
      · exact o' p h
      · rw [List.mem_singleton.mp h]
        exact ⟨mem_mems.mpr hx, mem_mems.mpr hy⟩) ⟨L, .un, .un, ho, by omega, rfl⟩
  exact ⟨L', s10, s11, o', e, by omega⟩
theorem c7_21 (g : OkG rs) (P : PlainG (mems rs) (putV rs) (zeroV rs) gs) {L : List (List Int × List Int)} (ho : okPL rs L) (s1 s2 s5 s6 s7 s8 s9 s10 s11 s12 s13 : Slot) : q_leads_c7 [.sh (tuI rs), s1, s2, .sh (tuI (rndG gs)), .sh (thD tuI (putV rs) (zeroV rs) gs), s5, s6, s7, s8, s9, s10, s11, s12, s13] (L.map pkD) = .ok (L.map fun _ => .bl true) := by
  unfold q_leads_c7
  refine lcD_gmap pkD (fun _ => .bl true) fun p hp => ⟨[.sh (tuI rs), s1, s2, .sh (tuI (rndG gs)), .sh (thD tuI (putV rs) (zeroV rs) gs), s5, s6, s7, s8, .sh (tuI p.1), s10, s11, s12, .sh (tuI p.2)], ?_, rfl, ?_⟩
  · have ep : pkD p = .tup [tuI p.1, tuI p.2] := rfl
    rw [ep]
    generalize tuI p.1 = A
    generalize tuI p.2 = B
    generalize thD tuI (putV rs) (zeroV rs) gs = TH
    simp [wipeR, tupG, consG, nameG, nilG]
  · obtain ⟨h1, h2⟩ := ho p hp
    have gF := P.okG (grpR g)
    obtain ⟨a1, a2, a3⟩ := P.psi_el (grpR g) h1
    obtain ⟨b1, b2, b3⟩ := P.psi_el (grpR g) h2
    have q1 := q_plus_ok g.ok (mem_mems.mp h1).len (mem_mems.mp h2).len
    have q2 := q_plus_ok gF.ok a1.len b1.len
    have e1 := P.th_ix (grpR g) keyE h1
    have e2 := P.th_ix (grpR g) keyE h2
    have e3 := P.th_ix (grpR g) keyE ((grpR g).putE _ h1 _ h2)
    rw [P.psi_put (grpR g) commR h1 h2] at e3
    have e4 := eqD_self (okQ_tI 63 (putV (rndG gs) (psiG (putV rs) (zeroV rs) gs p.1) (psiG (putV rs) (zeroV rs) gs p.2)))
    generalize thD tuI (putV rs) (zeroV rs) gs = TH at *
    generalize tuI (putV (rndG gs) (psiG (putV rs) (zeroV rs) gs p.1) (psiG (putV rs) (zeroV rs) gs p.2)) = C at *
    generalize tuI (putV rs p.1 p.2) = S at *
    generalize tuI (psiG (putV rs) (zeroV rs) gs p.1) = A at *
    generalize tuI (psiG (putV rs) (zeroV rs) gs p.2) = B at *
    generalize tuI p.1 = X at *
    generalize tuI p.2 = Y at *
    generalize tuI (rndG gs) = F at *
    generalize tuI rs = R at *
    simp [q1, q2, e1, e2, e3, e4]
theorem all_blP {α : Type} (l : List α) : allT (.lst (l.map fun _ => D.bl true)) = .ok (.bl true) := by
  have tt : ∀ l : List α, trsD (l.map fun _ => D.bl true) = some (l.map fun _ => true) := fun l => by
    induction l with
    | nil => rfl
    | cons y ys ih => rw [List.map_cons, trsD, ih]; rfl
  unfold allT
  simp only [tt]
  rw [List.all_map]
  simp
theorem any_falseP {α : Type} (l : List α) : anyT (.lst (l.map fun _ => D.bl false)) = .ok (.bl false) := by
  have := any_blP (fun _ : α => false) l
  rw [this]
  simp
theorem leads21 (g : OkG rs) (P : PlainG (mems rs) (putV rs) (zeroV rs) gs) (hlen : ns.length ≤ 63) : d_q_leads [tuI rs, .tup [tuI (rndG gs), thD tuI (putV rs) (zeroV rs) gs, bkD tuI (putV rs) (zeroV rs) gs], .scr ns] = .ok (.bl true) := by
  have gF := P.okG (grpR g)
  have l144 : (mems rs).length ≤ 144 := (grpR g).len
  have lF : (mems (rndG gs)).length ≤ 144 := (grpR gF).len
  have m1 := q_elements_ok g.ok g.most g.prod
  have m2 := q_elements_ok gF.ok gF.most gF.prod
  have s1 : sortedD (thD tuI (putV rs) (zeroV rs) gs) = .ok (.lst ((mems rs).map tuI)) := by
    have := sortedD_mems (thereL_perm (grpR g) P) ((thereL (putV rs) (zeroV rs) gs).map fun p => tuI p.2)
    rw [List.map_map] at this
    exact this
  have s2 : sortedD (bkD tuI (putV rs) (zeroV rs) gs) = .ok (.lst ((mems (rndG gs)).map tuI)) := by
    have := sortedD_mems (List.Perm.refl (mems (rndG gs))) (((mems (rndG gs)).map fun v => (v, comG (putV rs) (zeroV rs) v gs)).map fun p => tuI p.2)
    have e : bkD tuI (putV rs) (zeroV rs) gs = .dic ((mems (rndG gs)).map tuI) (((mems (rndG gs)).map fun v => (v, comG (putV rs) (zeroV rs) v gs)).map fun p => tuI p.2) := by
      show D.dic _ _ = _
      rw [List.map_map]
      rfl
    rw [e]
    exact this
  have s3 : sortedVS (thD tuI (putV rs) (zeroV rs) gs) = .ok (.lst ((mems (rndG gs)).map tuI)) := by
    have := sortedVS_mems (List.Perm.refl (mems (rndG gs))) ((thereL (putV rs) (zeroV rs) gs).map fun p => tuI p.1)
    have e : thD tuI (putV rs) (zeroV rs) gs = .dic ((thereL (putV rs) (zeroV rs) gs).map fun p => tuI p.1) ((mems (rndG gs)).map tuI) := by
      show D.dic _ _ = _
      unfold thereL
      rw [List.map_map, List.map_map]
      rfl
    rw [e]
    exact this
  have i1 : isD isC isU (thD tuI (putV rs) (zeroV rs) gs) (.ty "dict") = .ok (.bl true) := rfl
  have i2 : isD isC isU (bkD tuI (putV rs) (zeroV rs) gs) (.ty "dict") = .ok (.bl true) := rfl
  have n1 := neD_self (okQ_lstT (mems rs))
  have n2 := neD_self (okQ_lstT (mems (rndG gs)))
  have c1 := c1_21 g P
  have c3 := c3_21 g.ok
  have l7 := g.ok.len
  have ln : lenD (tuI rs) = .ok (.int (rs.length : Nat)) := by show Res.ok (D.int ((rs.map D.int).length : Nat)) = _; rw [List.length_map]
  have rg : rng1 [.int (rs.length : Nat)] = .ok (rangeL 0 rs.length) := by simp [rng1]; omega
  have hm : ((List.range rs.length).map fun k => tuI (headV rs.length k)) = ((List.range rs.length).map fun k => headV rs.length k).map tuI := by rw [List.map_map]; rfl
  rw [hm] at c3
  have hE : ∀ x ∈ (List.range rs.length).map fun k => headV rs.length k, x ∈ mems rs := fun x hx => by
    obtain ⟨k, _, rfl⟩ := List.mem_map.mp hx
    exact mem_mems.mpr (headOk g.ok k)
  have hlh : ((List.range rs.length).map fun k => headV rs.length k).length ≤ 7 := by simp; omega
  obtain ⟨L1, t9, o1, ll1, f1⟩ := l5_21 g (s0 := .sh (tuI rs)) (s1 := .sh (.tup [tuI (rndG gs), thD tuI (putV rs) (zeroV rs) gs, bkD tuI (putV rs) (zeroV rs) gs])) (s2 := .sh (.scr ns)) (s3 := .sh (tuI (rndG gs))) (s4 := .sh (thD tuI (putV rs) (zeroV rs) gs)) (s5 := .sh (bkD tuI (putV rs) (zeroV rs) gs)) (s7 := .sh (.lst (((List.range rs.length).map fun k => headV rs.length k).map tuI))) (s10 := .un) (s11 := .un) (s12 := .un) (L := []) (s9 := .un) hE (by simp only [List.length_nil]; omega) (fun _ h => nomatch h)
  obtain ⟨L2, t10, t11, o2, f2, ll2⟩ := l6_21 g hlen (s0 := .sh (tuI rs)) (s1 := .sh (.tup [tuI (rndG gs), thD tuI (putV rs) (zeroV rs) gs, bkD tuI (putV rs) (zeroV rs) gs])) (s3 := .sh (tuI (rndG gs))) (s4 := .sh (thD tuI (putV rs) (zeroV rs) gs)) (s5 := .sh (bkD tuI (putV rs) (zeroV rs) gs)) (s7 := .sh (.lst (((List.range rs.length).map fun k => headV rs.length k).map tuI))) (s9 := t9) (s12 := .un) (s13 := .un) (L := L1) (by simp only [List.length_nil] at ll1; omega) o1
  have c7 := c7_21 g P o2
  have al := all_blP L2
  have an := any_falseP (mems rs)
  have h1 : ((mems rs).map fun _ => D.bl false).length ≤ lim := by rw [List.length_map]; unfold lim; omega
  have h2 : (((List.range rs.length).map fun k => headV rs.length k).map tuI).length ≤ lim := by rw [List.length_map]; unfold lim; omega
  have h3 : (L2.map fun _ => D.bl true).length ≤ lim := by rw [List.length_map]; unfold lim; omega
  have l0 : 0 ≤ lim := by decide
  have rg20 : rng1 [.int 20] = .ok (rangeL 0 20) := rfl
  refine runD_rt rfl ?_
  simp only [startD, N_q_leads, List.length_cons, List.length_nil, List.map_cons, List.map_nil, Nat.reduceAdd, Nat.reduceSub, Nat.zero_add, List.replicate, List.cons_append, List.nil_append]
  rw [List.map_nil] at f1
  generalize thD tuI (putV rs) (zeroV rs) gs = TH at *
  generalize bkD tuI (putV rs) (zeroV rs) gs = BK at *
  generalize ((mems rs).map fun _ => D.bl false) = BF at *
  generalize (L2.map fun _ => D.bl true) = BT at *
  generalize L2.map pkD = LP2 at *
  generalize L1.map pkD = LP1 at *
  generalize ((List.range rs.length).map fun k => headV rs.length k).map tuI = HH at *
  generalize (mems (rndG gs)).map tuI = MF at *
  generalize (mems rs).map tuI = MM at *
  generalize tuI (rndG gs) = F at *
  generalize tuI rs = R at *
  simp [e_q_leads, tupG, consG, nameG, nilG, m1, m2, s1, s2, s3, i1, i2, n1, n2, c1, c3, c7, al, an, ln, rg, lstD, h1, h2, h3, l0, shareAt, freeze, f1, f2, rg20]
end
theorem seq_nx {o : Oc} {k : Env → Oc} {r1 : Env} {t : Oc} (h : o = .nx r1) (h2 : k r1 = t) : o.seq k = t := by rw [h]; exact h2
section
variable {rs ns : List Int}
theorem turn21 (hlen : ns.length ≤ 63) {F : List Int} (g : OkG rs) (due : ∀ gs, PlainG (mems rs) (putV rs) (zeroV rs) gs → rndG gs = F) {s3 s4 : Slot} (k : Nat) : ∃ t4, law_l2 (.int (k : Nat)) [.sh (.scr ns), .sh (tuI rs), .sh (tuI F), s3, s4, .un] = .nx [.sh (.scr ns), .sh (tuI rs), .sh (tuI F), .sh (.int (k : Nat)), t4, .un] := by
  obtain ⟨gs, P, pl⟩ := plainestP (grpR g) (by decide) keyE commR ⟨_, rfl, even_ok rs⟩ (putR0 g) (zeroR0 g) (memR0 g) fun _ g => memR0 g
  obtain rfl := due gs P
  have pl : d_plainest [gR rs] = .ok (.tup [tuI (rndG gs), thD tuI (putV rs) (zeroV rs) gs, bkD tuI (putV rs) (zeroV rs) gs]) := pl
  have ri := init_ok g (tuI rs) (.inl rfl)
  have ld := leads21 (ns := ns) g P hlen
  have gF := P.okG (grpR g)
  have l7 := gF.ok.len
  have n1 := neD_self (okQ_tI 63 (rndG gs))
  have isT : ∀ xs, isD isC isU (.tup xs) (.ty "tuple") = .ok (.bl true) := fun _ => rfl
  have c1 : ∀ s4, law_c1 [.sh (.scr ns), .sh (tuI rs), .sh (tuI (rndG gs)), .sh (.int (k : Nat)), s4, .un] ((rndG gs).map D.int) = .ok ((rndG gs).map fun _ => .bl true) := fun s4 => by
    unfold law_c1
    refine lcD_ints (fun _ => .bl true) fun x _ => ⟨rfl, ?_⟩
    have qw : d_q_whole [.int x] = .ok (.bl true) := by kernel_rfl
    generalize tuI rs = R at *
    generalize tuI (rndG gs) = F at *
    simp [wipeR, qw]
  have al := all_blP (rndG gs)
  have h1 : ((rndG gs).map fun _ => D.bl true).length ≤ lim := by rw [List.length_map]; unfold lim; omega
  have e1 : ∃ k1 v1, thD tuI (putV rs) (zeroV rs) gs = .dic k1 v1 := ⟨_, _, rfl⟩
  have e2 : ∃ k1 v1, bkD tuI (putV rs) (zeroV rs) gs = .dic k1 v1 := ⟨_, _, rfl⟩
  have itF : itemsD (tuI (rndG gs)) = .ok ((rndG gs).map D.int) := rfl
  have iF : isD isC isU (tuI (rndG gs)) (.ty "tuple") = .ok (.bl true) := rfl
  obtain ⟨k1, v1, e1⟩ := e1
  obtain ⟨k2, v2, e2⟩ := e2
  rw [e1, e2] at pl ld
  clear e1 e2
  refine ⟨.ow (.parts [.sh, .flat, .flat]) (.tup [tuI (rndG gs), .dic [] [], .dic [] []]), ?_⟩
  clear due
  have kd1 : (Shape.kid (.parts [.sh, .flat, .flat]) 1).isFlat = true := rfl
  have kd2 : (Shape.kid (.parts [.sh, .flat, .flat]) 2).isFlat = true := rfl
  generalize ((rndG gs).map fun _ => D.bl true) = BT at *
  have itF2 : ∀ ys, (D.tup (tuI (rndG gs) :: ys)) = .tup (tuI (rndG gs) :: ys) := fun _ => rfl
  generalize gR rs = GG at *
  generalize tuI rs = R at *
  simp [law_l2, nameG, law_s3_1, law_s3_2, law_s3_3, law_s3_4, law_s3_5, ri, pl, lendP, freeze, isT, partG, n1, c1, al, h1, lstD, ld, clrTI, kd1, kd2]
end
theorem law_ok (ns : List Int) (hl : ns.length ≤ 63) : d_law [.scr ns] = .ok (.bl true) := by
  obtain ⟨rs, hrs, e1⟩ := rounds21 hl
  obtain ⟨F, e2, due⟩ := due21 hrs
  have g := okG21 hrs
  obtain ⟨t4, f1⟩ := turn21 hl g due (s3 := .un) (s4 := .un) 0
  obtain ⟨t4', f2⟩ := turn21 hl g due (s3 := .sh (.int ((0 : Nat) : Int))) (s4 := t4) 1
  have rg2 : rng1 [.int 2] = .ok [.int ((0 : Nat) : Int), .int ((1 : Nat) : Int)] := rfl
  have ff : forD law_l2 [.int ((0 : Nat) : Int), .int ((1 : Nat) : Int)] [.sh (.scr ns), .sh (tuI rs), .sh (tuI F), .un, .un, .un] = .nx [.sh (.scr ns), .sh (tuI rs), .sh (tuI F), .sh (.int ((1 : Nat) : Int)), t4', .un] := by
    rw [forD_cons, f1]
    show forD law_l2 [.int ((1 : Nat) : Int)] _ = _
    rw [forD_cons, f2]
    rfl
  refine runD_rt rfl ?_
  simp only [startD, N_law, List.length_cons, List.length_nil, List.map_cons, List.map_nil, Nat.reduceAdd, Nat.reduceSub, Nat.zero_add, List.replicate, List.cons_append, List.nil_append]
  generalize tuI rs = R at *
  generalize tuI F = FF at *
  simp only [e_law]
  refine seq_nx (r1 := [.sh (.scr ns), .sh R, .un, .un, .un, .un]) (by simp [law_s1, e1]) ?_
  refine seq_nx (r1 := [.sh (.scr ns), .sh R, .sh FF, .un, .un, .un]) (by simp [law_s2, e2]) ?_
  refine seq_nx (r1 := [.sh (.scr ns), .sh R, .sh FF, .sh (.int ((1 : Nat) : Int)), t4', .un]) (by unfold law_s3; rw [show ((Res.ok (D.int 2)) >>= fun d => (.ok []) >>= fun ds => .ok (d :: ds)) = .ok [D.int 2] from rfl]; show (lift (rng1 [.int 2]) _ _) = _; rw [rg2]; exact ff) ?_
  rfl
end Mir.K21
open PySem PySem.W PyProof.Rows
theorem PySem.Challenge.cw_carrytower_k21_rounds_told_plainly_holds : PySem.Challenge.rw_carrytower_k21_rounds_told_plainly.Holds := by
  w_on; o_law; k_head; (case hw => w_witness2)
  k_fill
  refine Mir.walk_mir (l := PySem.Challenge.rw_carrytower_k21_rounds_told_plainly) (k := 6) (x := "_law_script") (g := Mir.K21.d_law) rfl rfl ⟨rfl, by decide, by decide⟩ (fun w h Y => by first | exact PySem.W.kIn_of Y | exact PySem.W.km_in_of Y) Mir.K21.law_ok ?F
  case F =>
    intro w mg fa h KX G hmg
    refine' Mir.K21.all_mk KX G hmg ?aC_CarryError ?aC_NoRounds ?aC_NoElement ?aC_Uneven ?aC_Group ?aC_Rounds ?a_q_cell ?l_q_cell ?c_q_cell ?k_q_cell ?a_q_rounds ?l_q_rounds ?c_q_rounds ?k_q_rounds ?a_q_powers ?l_q_powers ?c_q_powers ?k_q_powers ?a_q_due ?l_q_due ?c_q_due ?k_q_due ?a_Rounds_is_even ?l_Rounds_is_even ?c_Rounds_is_even ?k_Rounds_is_even ?i_Rounds_is_even ?a_Uneven_init ?l_Uneven_init ?c_Uneven_init ?k_Uneven_init ?a_Rounds_members ?l_Rounds_members ?c_Rounds_members ?k_Rounds_members ?i_Rounds_members ?a_break_of_two ?l_break_of_two ?c_break_of_two ?k_break_of_two ?a_Rounds_nought ?l_Rounds_nought ?c_Rounds_nought ?k_Rounds_nought ?i_Rounds_nought ?a_Rounds_put ?l_Rounds_put ?c_Rounds_put ?k_Rounds_put ?i_Rounds_put ?a_times_of ?l_times_of ?c_times_of ?k_times_of ?a_widened ?l_widened ?c_widened ?k_widened ?a_parts_of ?l_parts_of ?c_parts_of ?k_parts_of ?a_is_whole ?l_is_whole ?c_is_whole ?k_is_whole ?a_are_rounds ?l_are_rounds ?c_are_rounds ?k_are_rounds ?a_Rounds_init ?l_Rounds_init ?c_Rounds_init ?k_Rounds_init ?i_Rounds_init ?a_plainest ?l_plainest ?c_plainest ?k_plainest ?a_q_whole ?l_q_whole ?c_q_whole ?k_q_whole ?a_q_elements ?l_q_elements ?c_q_elements ?k_q_elements ?a_q_plus ?l_q_plus ?c_q_plus ?k_q_plus ?a_q_leads ?l_q_leads ?c_q_leads ?k_q_leads ?a_law ?l_law ?c_law ?k_law ?z_len ?z_range ?z_tuple ?z_sorted ?z_enumerate ?xL_Uneven ?rv_Uneven ?ob_Uneven ?tI_Uneven ?no_Uneven_two ?fl_rounds ?fl_upper ?fl_table ?z_zip ?z_any ?z_isinstance ?z_list ?z_MOST_ROUNDS ?z_int ?z_bool ?z_MOST_ELEMENTS ?ob_NoRounds ?z_all ?z_dict ?hIs ?mk_Rounds ?kc_Rounds ?oB
    (case aC_CarryError => k_is)
    (case aC_NoRounds => k_is)
    (case aC_NoElement => k_is)
    (case aC_Uneven => k_is)
    (case aC_Group => k_is)
    (case aC_Rounds => k_is)
    (case a_q_cell => k_is)
    (case l_q_cell => k_is)
    (case c_q_cell => k_is)
    (case k_q_cell => k_is)
    (case a_q_rounds => k_is)
    (case l_q_rounds => k_is)
    (case c_q_rounds => k_is)
    (case k_q_rounds => k_is)
    (case a_q_powers => k_is)
    (case l_q_powers => k_is)
    (case c_q_powers => k_is)
    (case k_q_powers => k_is)
    (case a_q_due => k_is)
    (case l_q_due => k_is)
    (case c_q_due => k_is)
    (case k_q_due => k_is)
    (case a_Rounds_is_even => k_is)
    (case l_Rounds_is_even => k_is)
    (case c_Rounds_is_even => k_is)
    (case k_Rounds_is_even => k_is)
    (case i_Rounds_is_even => k_is)
    (case a_Uneven_init => k_is)
    (case l_Uneven_init => k_is)
    (case c_Uneven_init => k_is)
    (case k_Uneven_init => k_is)
    (case a_Rounds_members => k_is)
    (case l_Rounds_members => k_is)
    (case c_Rounds_members => k_is)
    (case k_Rounds_members => k_is)
    (case i_Rounds_members => k_is)
    (case a_break_of_two => k_is)
    (case l_break_of_two => k_is)
    (case c_break_of_two => k_is)
    (case k_break_of_two => k_is)
    (case a_Rounds_nought => k_is)
    (case l_Rounds_nought => k_is)
    (case c_Rounds_nought => k_is)
    (case k_Rounds_nought => k_is)
    (case i_Rounds_nought => k_is)
    (case a_Rounds_put => k_is)
    (case l_Rounds_put => k_is)
    (case c_Rounds_put => k_is)
    (case k_Rounds_put => k_is)
    (case i_Rounds_put => k_is)
    (case a_times_of => k_is)
    (case l_times_of => k_is)
    (case c_times_of => k_is)
    (case k_times_of => k_is)
    (case a_widened => k_is)
    (case l_widened => k_is)
    (case c_widened => k_is)
    (case k_widened => k_is)
    (case a_parts_of => k_is)
    (case l_parts_of => k_is)
    (case c_parts_of => k_is)
    (case k_parts_of => k_is)
    (case a_is_whole => k_is)
    (case l_is_whole => k_is)
    (case c_is_whole => k_is)
    (case k_is_whole => k_is)
    (case a_are_rounds => k_is)
    (case l_are_rounds => k_is)
    (case c_are_rounds => k_is)
    (case k_are_rounds => k_is)
    (case a_Rounds_init => k_is)
    (case l_Rounds_init => k_is)
    (case c_Rounds_init => k_is)
    (case k_Rounds_init => k_is)
    (case i_Rounds_init => k_is)
    (case a_plainest => k_is)
    (case l_plainest => k_is)
    (case c_plainest => k_is)
    (case k_plainest => k_is)
    (case a_q_whole => k_is)
    (case l_q_whole => k_is)
    (case c_q_whole => k_is)
    (case k_q_whole => k_is)
    (case a_q_elements => k_is)
    (case l_q_elements => k_is)
    (case c_q_elements => k_is)
    (case k_q_elements => k_is)
    (case a_q_plus => k_is)
    (case l_q_plus => k_is)
    (case c_q_plus => k_is)
    (case k_q_plus => k_is)
    (case a_q_leads => k_is)
    (case l_q_leads => k_is)
    (case c_q_leads => k_is)
    (case k_q_leads => k_is)
    (case a_law => k_is)
    (case l_law => k_is)
    (case c_law => k_is)
    (case k_law => k_is)
    (case z_len => k_is)
    (case z_range => k_is)
    (case z_tuple => k_is)
    (case z_sorted => k_is)
    (case z_enumerate => k_is)
    (case xL_Uneven => k_is)
    (case rv_Uneven => decide +kernel)
    (case ob_Uneven => kernel_rfl)
    (case tI_Uneven => k_is)
    (case no_Uneven_two => k_is)
    (case fl_rounds => kernel_rfl)
    (case fl_upper => kernel_rfl)
    (case fl_table => kernel_rfl)
    (case z_zip => k_is)
    (case z_any => k_is)
    (case z_isinstance => k_is)
    (case z_list => k_is)
    (case z_MOST_ROUNDS => k_is)
    (case z_int => k_is)
    (case z_bool => k_is)
    (case z_MOST_ELEMENTS => k_is)
    (case ob_NoRounds => kernel_rfl)
    (case z_all => k_is)
    (case z_dict => k_is)
    (case hIs => kernel_rfl)
    (case mk_Rounds => k_is)
    (case kc_Rounds => k_is)
    (case oB => kernel_rfl)
