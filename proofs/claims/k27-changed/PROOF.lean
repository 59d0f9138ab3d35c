import PyProof.Rows.All
import Wide.All
import OpenK.AllK
import Wide.FinOn
import HandS.ForMost
import HandS.Lambda
import HandS.ForExc
import HandS.IsInst
import KE.KDictKeyed
import HandS.CallSlots
import HandS.ExcInit
import HandS.ExcCtx
import HandS.WordsExc
import HandS.Small
import HandS.TupAny
import HandS.TupMul
import HandS.Wide
import HandS.Deep
import HandS.Style
import HandS.Conv
import HandS.ExcIs
import HandS.Walk
import KE.KExcIs
import HandS.TupLen
import HandS.ExcValue
import HandS.ExcField
import HandS.TryMany
import HandS.EndTab
import HandS.Zip
import KE.GoesMore
import KE.KDictOf
import KE.KEqDict
import PyProof.EnumMake
import PyProof.Draws
import KE.KDictDisplayH
import PyProof.DictDisplay
import HandS.SortOrd
import HandS.NamedTupSort
import KE.KDictSum
import KE.KDictCopyH
import KE.KDictZip
import HandS.Rev
import HandS.Nested
import KE.SortData
import KE.KEqNest
import HandS.TryOnly
import HandS.Sort
import HandS.Text
import HandS.More
import HandS.Flow
import HandS.HotCalls
import PySem.Challenge.RW_carrytower_k27_changed
set_option Elab.async false
set_option linter.all false
set_option maxRecDepth 100000
namespace Mir
open PySem PySem.Spec PyProof.Rows L2
/-- data -/
inductive D where
  | non | bl (b : Bool) | int (i : Int) | str (s : Str)
  | tup (xs : List D) | lst (xs : List D)
  | scr (ns : List Int)
  | dic (ks : List D) (vs : List D)
  | dct (ks : List Key) (vs : List D)
  | mix (ks : List D) (vs : List D) (k : Key) (v : D)
  | opq
  | obj (c : Nat) (vs : List D)
  | exc (c : Nat) (vs : List D)
  | cls (c : Nat) | ty (n : String)
  deriving Inhabited
/-- the classes by numbers: their names, their attributes in order -/
noncomputable def cname : Nat → Str
  | 0 => "Rounds" | 1 => "Tower" | 2 => "Table" | 3 => "Map" | 4 => "Desk" | 5 => "Group"
  | 10 => "CarryError" | 11 => "NoRounds" | 12 => "NoElement" | 13 => "NoLower" | 14 => "NoUpper" | 15 => "NoHead" | 16 => "NotLike" | 17 => "NoCount" | 18 => "NoPair"
  | 19 => "NoKind" | 20 => "NoLine" | 21 => "NothingDone" | 22 => "NoText" | 23 => "NoCarry" | 24 => "NoTower" | 25 => "Uneven" | 26 => "NoRelabeling" | 27 => "TooMany" | 28 => "NoMap" | 29 => "NoName"
  | _ => ""
noncomputable def cflds : Nat → List Str
  | 0 => ["rounds"] | 1 => ["table", "ground"] | 2 => ["lower", "upper", "kept"] | 3 => ["source", "goal", "images"] | 4 => ["kept", "past"]
  | 22 => ["at"] | 23 => ["y", "x"] | 24 => ["three"] | 25 => ["two"] | 26 => ["x"] | 27 => ["many"] | 28 => ["head"] | 29 => ["name"]
  | _ => []
inductive Res (α : Type) where
  | ok (a : α) | er (e : D) | bad
@[inline] noncomputable def Res.bind {α β : Type} (r : Res α) (f : α → Res β) : Res β := match r with
  | .ok a => f a
  | .er e => .er e
  | .bad => .bad
noncomputable instance : Monad Res where
  pure := .ok
  bind := Res.bind
@[simp] theorem ok_bind {α β : Type} (a : α) (f : α → Res β) : (Res.ok a >>= f) = f a := rfl
@[simp] theorem er_bind {α β : Type} (e : D) (f : α → Res β) : ((Res.er e : Res α) >>= f) = .er e := rfl
@[simp] theorem bad_bind {α β : Type} (f : α → Res β) : ((Res.bad : Res α) >>= f) = .bad := rfl
@[simp] theorem pure_ok {α : Type} (a : α) : (pure a : Res α) = .ok a := rfl
/-- the ground: what the module has written -/
structure GC where
  P : Program
  w : World
  K : PySem.W.Frag
  mg : Str → Option Value
/-- where the class stands -/
noncomputable def GC.ca (G : GC) (c : Nat) : Addr := match G.mg (cname c) with
  | some (.ref C) => C
  | _ => 0
noncomputable abbrev gOf (X : Cx) : GC := ⟨X.prog, X.w, X.K, X.mg⟩
/-- a datum as a key -/
noncomputable def keyOf : D → Option NestedKey
  | .non => some .none
  | .bl b => some (.num (if b = true then 1 else 0))
  | .int i => some (.num i)
  | .str s => some (.text s)
  | .tup xs => (keysOf xs).map .tup
  | _ => none
where keysOf : List D → Option (List NestedKey)
  | [] => some []
  | x :: xs => match keyOf x, keysOf xs with
    | some k, some ks => some (k :: ks)
    | _, _ => none
/-- at a stands a dict with the entries' keys at addresses and values -/
structure DicO (G : GC) (o : Obj) (xs : List (NestedKey × Addr × Value)) : Prop where
  ex : o.ExactDict
  dat : ∃ es ep, o.data = .dict es ep ∧ es.toList = xs.map (entryOfKey (nestedKind G.P G.w))
  nd : (xs.map (·.1)).Nodup
  dp : ∀ x ∈ xs, x.1.depth ≤ 8
  sz : xs.length ≤ sizeLine
/-- .. and a last entry whose key is a number or a text -/
structure MixO (G : GC) (o : Obj) (xs : List (NestedKey × Addr × Value)) (k : Key) (u : Value) : Prop where
  ex : o.ExactDict
  dat : ∃ es ep kv, o.data = .dict es ep ∧ RelV (kV k) kv ∧ es.toList = xs.map (entryOfKey (nestedKind G.P G.w)) ++ [⟨(mixKind G.P G.w).hash k, kv, u⟩]
  nd : (xs.map (·.1)).Nodup
  dp : ∀ x ∈ xs, x.1.depth ≤ 8
  sz : xs.length < sizeLine
/-- at a stands a dict of the module, its keys numbers and texts -/
noncomputable def KDct (G : GC) (a : Addr) (kvs : List (Key × V)) : Prop := (a == sysModules) = false ∧ kvs.length ≤ sizeLine ∧ ∃ o, G.K.lookup a = some o ∧ ∀ h : Heap, h.get? a = some o → ∃ vs, KV kvs vs ∧ h.DictOf (mixKind G.P G.w) a vs
noncomputable def isObj' (a : Addr) (o : Obj) : Heap → Prop := fun h => h.get? a = some o
noncomputable def isExc (a : Addr) (C : Addr) (d : Option Addr) : Heap → Prop := fun h => ∃ oe vs, h.get? a = some oe ∧ oe.cls = .ref C ∧ oe.dict = d ∧ oe.data = .fields vs ∧ vs[2]? = some .none
mutual
/-- v bears d in F -/
inductive Rep (G : GC) (F : Hp) : V → D → Prop
  | non : Rep G F .non .non
  | bl (b : Bool) : Rep G F (.bl b) (.bl b)
  | int (i : Int) : Rep G F (.int i) (.int i)
  | str (s : Str) : Rep G F (.str s) (.str s)
  | tup {a : Addr} {vs : List V} {ds : List D} : SqT G.K F a vs → RepAll G F vs ds → Rep G F (.ref a) (.tup ds)
  | lst {a : Addr} {vs : List V} {ds : List D} : F a = some (.lst vs) → RepAll G F vs ds → Rep G F (.ref a) (.lst ds)
  | scr {a : Addr} {ns : List Int} : SqL G.K F a (ns.map V.int) → Rep G F (.ref a) (.scr ns)
  | dic {a : Addr} {o : Obj} {xs : List (NestedKey × Addr × Value)} {ws : List V} {ks vs : List D} : F a = some (.ext (isObj' a o)) → (a == sysModules) = false → DicO G o xs → Vals ws (xs.map (·.2.2)) →
      RepAll G F (xs.map fun x => V.ref x.2.1) ks → ks.map keyOf = xs.map (fun x => some x.1) → RepAll G F ws vs → Rep G F (.ref a) (.dic ks vs)
  | dct {a : Addr} {kvs : List (Key × V)} {ks : List Key} {vs : List D} : F a = some (.dK kvs) → ks = kvs.map (·.1) → RepAll G F (kvs.map (·.2)) vs → Rep G F (.ref a) (.dct ks vs)
  | dctK {a : Addr} {kvs : List (Key × V)} {ks : List Key} {vs : List D} : KDct G a kvs → ks = kvs.map (·.1) → RepAll G F (kvs.map (·.2)) vs → Rep G F (.ref a) (.dct ks vs)
  | mix {a : Addr} {o : Obj} {xs : List (NestedKey × Addr × Value)} {ws : List V} {ks vs : List D} {k : Key} {u : Value} {w : V} {v : D} : F a = some (.ext (isObj' a o)) → (a == sysModules) = false → MixO G o xs k u → Vals ws (xs.map (·.2.2)) →
      RepAll G F (xs.map fun x => V.ref x.2.1) ks → ks.map keyOf = xs.map (fun x => some x.1) → RepAll G F ws vs → RelV w u → Rep G F w v → Rep G F (.ref a) (.mix ks vs k v)
  | opq {a : Addr} : Rep G F (.ref a) .opq
  | obj {a dx : Addr} {c : Nat} {ws : List V} {vs : List D} : F a = some (.ins (G.ca c) dx ((cflds c).zip ws)) → ws.length ≤ (cflds c).length → RepAll G F ws vs → Rep G F (.ref a) (.obj c vs)
  | exc {a : Addr} {c : Nat} : F a = some (.ext (isExc a (G.ca c) none)) → cflds c = [] → Rep G F (.ref a) (.exc c [])
  | excF {a dx : Addr} {c : Nat} {ws : List V} {vs : List D} : F a = some (.ext (isExc a (G.ca c) (some dx))) → F dx = some (.xd ((cflds c).zip ws)) → ws.length = (cflds c).length → RepAll G F ws vs → Rep G F (.ref a) (.exc c vs)
  | cls {C : Addr} {c : Nat} : G.mg (cname c) = some (.ref C) → Rep G F (.ref C) (.cls c)
  | ty (n : String) : Rep G F (.ty n) (.ty n)
inductive RepAll (G : GC) (F : Hp) : List V → List D → Prop
  | nil : RepAll G F [] []
  | cons {v : V} {d : D} {vs : List V} {ds : List D} : Rep G F v d → RepAll G F vs ds → RepAll G F (v :: vs) (d :: ds)
end
theorem Same.sqT {K : PySem.W.Frag} {H H' : Hp} {a : Addr} {xs : List V} (e : Same H H') (h : SqT K H a xs) : SqT K H' a xs := by
  rcases h with (h | ⟨o, h⟩) | h
  · exact .inl (.inl (e _ _ h))
  · exact .inl (.inr ⟨o, e _ _ h⟩)
  · exact .inr h
mutual
theorem Rep.mono {G : GC} {F F' : Hp} (s : Same F F') : ∀ {v : V} {d : D}, Rep G F v d → Rep G F' v d
  | _, _, .non => .non
  | _, _, .bl b => .bl b
  | _, _, .int i => .int i
  | _, _, .str x => .str x
  | _, _, .tup h r => .tup (Same.sqT s h) (RepAll.mono s r)
  | _, _, .lst h r => .lst (s _ _ h) (RepAll.mono s r)
  | _, _, .scr h => .scr (s.seq h)
  | _, _, .dic h1 h2 h3 h4 h5 h6 h7 => .dic (s _ _ h1) h2 h3 h4 (RepAll.mono s h5) h6 (RepAll.mono s h7)
  | _, _, .dct h z r => .dct (s _ _ h) z (RepAll.mono s r)
  | _, _, .dctK h z r => .dctK h z (RepAll.mono s r)
  | _, _, .mix h1 h2 h3 h4 h5 h6 h7 h8 h9 => .mix (s _ _ h1) h2 h3 h4 (RepAll.mono s h5) h6 (RepAll.mono s h7) h8 (Rep.mono s h9)
  | _, _, .opq => .opq
  | _, _, .obj h z r => .obj (s _ _ h) z (RepAll.mono s r)
  | _, _, .exc h z => .exc (s _ _ h) z
  | _, _, .excF h1 h2 z r => .excF (s _ _ h1) (s _ _ h2) z (RepAll.mono s r)
  | _, _, .cls h => .cls h
  | _, _, .ty n => .ty n
theorem RepAll.mono {G : GC} {F F' : Hp} (s : Same F F') : ∀ {vs : List V} {ds : List D}, RepAll G F vs ds → RepAll G F' vs ds
  | _, _, .nil => .nil
  | _, _, .cons r t => .cons (Rep.mono s r) (RepAll.mono s t)
end
section
variable {G : GC} {F : Hp}
theorem RepAll.length : ∀ {vs : List V} {ds : List D}, RepAll G F vs ds → vs.length = ds.length
  | _, _, .nil => rfl
  | _, _, .cons _ t => congrArg (· + 1) (RepAll.length t)
theorem RepAll.get : ∀ {vs : List V} {ds : List D} {i : Nat} {d : D}, RepAll G F vs ds → ds[i]? = some d → ∃ v, vs[i]? = some v ∧ Rep G F v d
  | _, _, _, _, .nil, e => by simp at e
  | _, _, 0, _, .cons r _, e => by simp at e; subst e; exact ⟨_, rfl, r⟩
  | _, _, i + 1, d, .cons _ t, e => by
    obtain ⟨v, h1, h2⟩ := RepAll.get (i := i) (d := d) t (by simpa using e)
    exact ⟨v, by simpa using h1, h2⟩
theorem RepAll.getV : ∀ {vs : List V} {ds : List D} {i : Nat} {v : V}, RepAll G F vs ds → vs[i]? = some v → ∃ d, ds[i]? = some d ∧ Rep G F v d
  | _, _, _, _, .nil, e => by simp at e
  | _, _, 0, _, .cons r _, e => by simp at e; subst e; exact ⟨_, rfl, r⟩
  | _, _, i + 1, v, .cons _ t, e => by
    obtain ⟨d, h1, h2⟩ := RepAll.getV (i := i) (v := v) t (by simpa using e)
    exact ⟨d, by simpa using h1, h2⟩
theorem RepAll.append : ∀ {vs ws : List V} {ds es : List D}, RepAll G F vs ds → RepAll G F ws es → RepAll G F (vs ++ ws) (ds ++ es)
  | _, _, _, _, .nil, s => s
  | _, _, _, _, .cons r t, s => .cons r (RepAll.append t s)
theorem RepAll.set {v : V} {d : D} (r : Rep G F v d) : ∀ {vs : List V} {ds : List D} (i : Nat), RepAll G F vs ds → RepAll G F (vs.set i v) (ds.set i d)
  | _, _, _, .nil => .nil
  | _, _, 0, .cons _ t => .cons r t
  | _, _, i + 1, .cons q t => .cons q (RepAll.set r i t)
theorem RepAll.take : ∀ {vs : List V} {ds : List D} (n : Nat), RepAll G F vs ds → RepAll G F (vs.take n) (ds.take n)
  | _, _, 0, _ => .nil
  | _, _, _ + 1, .nil => .nil
  | _, _, n + 1, .cons r t => .cons r (RepAll.take n t)
theorem RepAll.drop : ∀ {vs : List V} {ds : List D} (n : Nat), RepAll G F vs ds → RepAll G F (vs.drop n) (ds.drop n)
  | _, _, 0, r => r
  | _, _, _ + 1, .nil => .nil
  | _, _, n + 1, .cons _ t => RepAll.drop n t
theorem RepAll.reverse : ∀ {vs : List V} {ds : List D}, RepAll G F vs ds → RepAll G F vs.reverse ds.reverse
  | _, _, .nil => .nil
  | _, _, .cons r t => by
    rw [List.reverse_cons, List.reverse_cons]
    exact RepAll.append (RepAll.reverse t) (.cons r .nil)
end
inductive Shape where
  | sh
  | flat
  | parts (l : List Shape)
  | opts (l : List Shape)
/-- the shape of the i-th part -/
noncomputable def Shape.kid : Shape → Nat → Shape
  | .parts l, i => l.getD i .sh
  | .opts l, i => l.getD i .sh
  | _, _ => .sh
noncomputable def Shape.pts : Shape → Bool
  | .parts _ => true
  | .opts _ => true
  | _ => false
noncomputable def Shape.own : Shape → Bool
  | .sh => false
  | _ => true
mutual
/-- nothing that can be changed, at no depth -/
noncomputable def soft : D → Bool
  | .non => true
  | .bl _ => true
  | .int _ => true
  | .str _ => true
  | .tup ds => softs ds
  | _ => false
noncomputable def softs : List D → Bool
  | [] => true
  | d :: ds => soft d && softs ds
end
mutual
/-- v bears d, its own parts stand in H at A, the others in F -/
inductive Own (G : GC) (F H : Hp) : Shape → V → D → List Addr → Prop
  | sh {v : V} {d : D} : Rep G F v d → Own G F H .sh v d []
  | lst {s : Shape} {a : Addr} {vs : List V} {ds : List D} {A : List Addr} : s.own = true → H a = some (.lst vs) → F a = none → OwnAll G F H s.kid 0 vs ds A → a ∉ A → Own G F H s (.ref a) (.lst ds) (a :: A)
  | tup {s : Shape} {a : Addr} {vs : List V} {ds : List D} {A : List Addr} : s.pts = true → H a = some (.tup vs) → F a = none → OwnAll G F H s.kid 0 vs ds A → a ∉ A → Own G F H s (.ref a) (.tup ds) (a :: A)
  | dic {s : Shape} {a : Addr} {o : Obj} {xs : List (NestedKey × Addr × Value)} {ws : List V} {ks vs : List D} {A : List Addr} : s.own = true → H a = some (.ext (isObj' a o)) → F a = none → (a == sysModules) = false → DicO G o xs → Vals ws (xs.map (·.2.2)) →
      RepAll G F (xs.map fun x => V.ref x.2.1) ks → ks.map keyOf = xs.map (fun x => some x.1) → OwnAll G F H s.kid 0 ws vs A → a ∉ A → Own G F H s (.ref a) (.dic ks vs) (a :: A)
  | dct {s : Shape} {a : Addr} {kvs : List (Key × V)} {ks : List Key} {vs : List D} {A : List Addr} : s.own = true → H a = some (.dK kvs) → F a = none → ks = kvs.map (·.1) → OwnAll G F H s.kid 0 (kvs.map (·.2)) vs A → a ∉ A → Own G F H s (.ref a) (.dct ks vs) (a :: A)
  | mix {s : Shape} {a : Addr} {o : Obj} {xs : List (NestedKey × Addr × Value)} {ws : List V} {ks vs : List D} {k : Key} {u : Value} {w : V} {v : D} : s.own = true → H a = some (.ext (isObj' a o)) → F a = none → (a == sysModules) = false → MixO G o xs k u → Vals ws (xs.map (·.2.2)) →
      RepAll G F (xs.map fun x => V.ref x.2.1) ks → ks.map keyOf = xs.map (fun x => some x.1) → RepAll G F ws vs → RelV w u → Rep G F w v → Own G F H s (.ref a) (.mix ks vs k v) [a]
  | obj {s : Shape} {a dx : Addr} {c : Nat} {ws : List V} {vs : List D} {A : List Addr} : s.own = true → H a = some (.ins (G.ca c) dx ((cflds c).zip ws)) → F a = none → ws.length ≤ (cflds c).length → OwnAll G F H s.kid 0 ws vs A → a ∉ A →
      Own G F H s (.ref a) (.obj c vs) (a :: A)
  | opt {l : List Shape} {v : V} {ds : List D} : Rep G F v (.tup ds) → (∀ n d, ds[n]? = some d → ((Shape.opts l).kid n).own = true → soft d = true) → Own G F H (.opts l) v (.tup ds) []
inductive OwnAll (G : GC) (F H : Hp) : (Nat → Shape) → Nat → List V → List D → List Addr → Prop
  | nil {f : Nat → Shape} {n : Nat} : OwnAll G F H f n [] [] []
  | cons {f : Nat → Shape} {n : Nat} {v : V} {d : D} {vs : List V} {ds : List D} {A B : List Addr} : Own G F H (f n) v d A → OwnAll G F H f (n + 1) vs ds B → (∀ a ∈ A, a ∉ B) → OwnAll G F H f n (v :: vs) (d :: ds) (A ++ B)
end
/-- no code table -/
noncomputable def Nt (o : HO) : Prop := ∀ ps, o ≠ .tbl ps
/-- the name that the code objects of a table bear -/
class Tn where
  q : Addr → Str
  l : List Addr
variable [Tn]
/-- a code object of the name q -/
noncomputable def isCode (oc : Obj) (q : Str) : Prop := ∃ (vs : Array Value) (t : Tok), oc.data = .fields vs ∧ vs[1]? = some (.str q t)
noncomputable abbrev frzO (o : Obj) : HO := .frz o (.ext fun _ => True)
/-- the table of code objects at P: each one that it tells is shared and bears its name -/
noncomputable def TabF (F H : Hp) (P : Addr) : Prop :=
  F P = none ∧ ∃ ps : Array Value, H P = some (.tbl ps) ∧ TriplesOk ps.toList ∧ ∀ (pos : Pos) (cv : Value), codeAmong pos ps.toList = some cv → ∃ c oc, cv = .ref c ∧ F c = some (frzO oc) ∧ isCode oc (Tn.q P)
/-- all tables -/
noncomputable def Tt (F H : Hp) : Prop := ∀ P ∈ Tn.l, TabF F H P
/-- no address is free any more that was not -/
noncomputable def Fre (H H' : Hp) : Prop := ∀ a, H' a = none → H a = none
theorem _root_.L2.Same.fre {H H' : Hp} (s : Same H H') : Fre H H' := fun _ e => s.free e
theorem Fre.trans {H H1 H2 : Hp} (a : Fre H H1) (b : Fre H1 H2) : Fre H H2 := fun c e => a c (b c e)
/-- all but the tables of code objects stays; they grow -/
structure Stays (F H F' H' : Hp) : Prop where
  at' : ∀ a o, H a = some o → Nt o → H' a = some o
  tb : ∀ P ps, H P = some (.tbl ps) → ∃ ps', H' P = some (.tbl ps')
  tf : ∀ P, TabF F H P → TabF F' H' P
theorem Stays.tt {F H F' H' : Hp} (s : Stays F H F' H') (t : Tt F H) : Tt F' H' := fun P h => s.tf P (t P h)
section
variable {F H F' H' F1 H1 F2 H2 : Hp}
theorem Stays.at (s : Stays F H F' H') (a : Addr) (o : HO) (h : H a = some o) (n : Nt o := by intro _ z; cases z) : H' a = some o := s.at' a o h n
theorem Stays.fre (s : Stays F H F' H') : Fre H H' := fun a e => by
  cases q : H a with
  | none => rfl
  | some o =>
    by_cases h : ∃ ps, o = .tbl ps
    · obtain ⟨ps, rfl⟩ := h
      obtain ⟨ps', z⟩ := s.tb a ps q
      rw [e] at z; cases z
    · have := s.at' a o q fun ps z => h ⟨ps, z⟩
      rw [e] at this; cases this
theorem Stays.free (s : Stays F H F' H') {a : Addr} (e : H' a = none) : H a = none := s.fre a e
theorem Stays.of (h : Same H H') (f : Same F F') (n : ∀ a o, F' a = some o → F a = some o ∨ H a = none) : Stays F H F' H' where
  at' := fun a o e _ => h a o e
  tb := fun P ps e => ⟨ps, h P _ e⟩
  tf := fun P ⟨h0, ps, h1, h2, h3⟩ => by
    refine ⟨?_, ps, h P _ h1, h2, fun pos cv e => ?_⟩
    · cases e : F' P with
      | none => rfl
      | some o =>
        rcases n P o e with z | z
        · rw [h0] at z
          cases z
        · rw [h1] at z
          cases z
    · obtain ⟨c, oc, a, b, z⟩ := h3 pos cv e
      exact ⟨c, oc, a, f c _ b, z⟩
theorem Stays.refl : Stays F H F H := ⟨fun _ _ e _ => e, fun _ ps e => ⟨ps, e⟩, fun _ h => h⟩
theorem Stays.trans (a : Stays F H F1 H1) (b : Stays F1 H1 F2 H2) : Stays F H F2 H2 :=
  ⟨fun x o e n => b.at' x o (a.at' x o e n) n, fun P ps e => let ⟨ps1, e1⟩ := a.tb P ps e; b.tb P ps1 e1, fun P h => b.tf P (a.tf P h)⟩
/-- a new thing, or one's own, is written -/
theorem Stays.upd {x : Addr} {o : HO} (s : Stays F H F' H') (hx : H x = none) : Stays F H F' (upd H' x o) where
  at' := fun b u e n => by rw [upd_ne (ne_of_none e hx)]; exact s.at' b u e n
  tb := fun P ps e => by rw [upd_ne (ne_of_none e hx)]; exact s.tb P ps e
  tf := fun P h => by
    obtain ⟨_, _, e, _⟩ := id h
    obtain ⟨h0, ps, h1, h2⟩ := s.tf P h
    exact ⟨h0, ps, by rw [upd_ne (ne_of_none e hx)]; exact h1, h2⟩
end
/-- without the tables -/
noncomputable def nT (H : Hp) : Hp := fun a => match H a with
  | some (.tbl _) => none
  | o => o
theorem nT_at {H : Hp} {a : Addr} {o : HO} (h : H a = some o) (n : Nt o := by intro _ z; cases z) : nT H a = some o := by
  unfold nT
  rw [h]
  cases o <;> first | rfl | exact absurd rfl (n _)
theorem nT_of {H : Hp} {a : Addr} {o : HO} (h : nT H a = some o) : H a = some o ∧ Nt o := by
  unfold nT at h
  split at h
  · cases h
  · rename_i q
    exact ⟨h, fun ps z => by subst z; exact q ps h⟩
theorem Stays.nT {F H F' H' : Hp} (s : Stays F H F' H') : Same (Mir.nT H) H' := fun a o e => s.at' a o (nT_of e).1 (nT_of e).2
theorem rd_nT {H : Hp} {a : Addr} {o : HO} (n : Nt o) (h : Rd H a o) : Rd (nT H) a o := by
  rcases h with h | ⟨u, h⟩
  · exact .inl (nT_at h n)
  · exact .inr ⟨u, nT_at h⟩
theorem sqL_nT {K : PySem.W.Frag} {H : Hp} {a : Addr} {xs : List V} (h : SqL K H a xs) : SqL K (nT H) a xs := h.imp (rd_nT (by intro _ z; cases z)) id
/-- what grows: the heap, the shared part; nothing old becomes shared -/
structure Grow (F H F' H' : Hp) : Prop where
  h : Stays F H F' H'
  f : Same F F'
  sub : Same F' H'
  new : ∀ a o, F' a = some o → F a = some o ∨ H a = none
theorem Grow.of {F H F' H' : Hp} (h : Same H H') (f : Same F F') (sub : Same F' H') (new : ∀ a o, F' a = some o → F a = some o ∨ H a = none) : Grow F H F' H' := ⟨.of h f new, f, sub, new⟩
theorem Grow.refl {F H : Hp} (s : Same F H) : Grow F H F H := ⟨Stays.refl, Same.refl _, s, fun _ _ e => .inl e⟩
theorem Grow.trans {F H F1 H1 F2 H2 : Hp} (a : Grow F H F1 H1) (b : Grow F1 H1 F2 H2) : Grow F H F2 H2 :=
  ⟨a.h.trans b.h, a.f.trans b.f, b.sub, fun x o e => (b.new x o e).elim (fun q => a.new x o q) fun q => .inr (a.h.free q)⟩
/-- what stays of the own parts -/
structure Keep (A : List Addr) (F H F' H' : Hp) : Prop where
  h : ∀ a ∈ A, ∀ o, H a = some o → H' a = some o
  f : Same F F'
  n : ∀ a ∈ A, F a = none → F' a = none
theorem Grow.keep {F H F' H' : Hp} (g : Grow F H F' H') {A : List Addr} (hA : ∀ a ∈ A, ∃ o, H a = some o) (hn : ∀ a ∈ A, ∀ ps, H a ≠ some (.tbl ps)) : Keep A F H F' H' :=
  ⟨fun a ha o e => g.h.at' a o e fun ps z => hn a ha ps (z ▸ e), g.f, fun a ha e => by
    cases q : F' a with
    | none => rfl
    | some o =>
      rcases g.new a o q with z | z
      · rw [e] at z; cases z
      · obtain ⟨o', e'⟩ := hA a ha
        rw [z] at e'; cases e'⟩
section
variable {G : GC} {F H F' H' : Hp}
mutual
theorem Own.keep : ∀ {s : Shape} {v : V} {d : D} {A : List Addr}, Own G F H s v d A → Keep A F H F' H' → Own G F' H' s v d A
  | _, _, _, _, .sh r, k => .sh (r.mono k.f)
  | _, _, _, _, .lst h0 h1 h2 h3 h4, k => .lst h0 (k.h _ List.mem_cons_self _ h1) (k.n _ List.mem_cons_self h2) (OwnAll.keep h3 ⟨fun a ha => k.h a (List.mem_cons_of_mem _ ha), k.f, fun a ha => k.n a (List.mem_cons_of_mem _ ha)⟩) h4
  | _, _, _, _, .tup h0 h1 h2 h3 h4, k => .tup h0 (k.h _ List.mem_cons_self _ h1) (k.n _ List.mem_cons_self h2) (OwnAll.keep h3 ⟨fun a ha => k.h a (List.mem_cons_of_mem _ ha), k.f, fun a ha => k.n a (List.mem_cons_of_mem _ ha)⟩) h4
  | _, _, _, _, .dic h0 h1 h2 z1 z2 z3 z4 z5 h3 h4, k => .dic h0 (k.h _ List.mem_cons_self _ h1) (k.n _ List.mem_cons_self h2) z1 z2 z3 (z4.mono k.f) z5 (OwnAll.keep h3 ⟨fun a ha => k.h a (List.mem_cons_of_mem _ ha), k.f, fun a ha => k.n a (List.mem_cons_of_mem _ ha)⟩) h4
  | _, _, _, _, .dct h0 h1 h2 z h3 h4, k => .dct h0 (k.h _ List.mem_cons_self _ h1) (k.n _ List.mem_cons_self h2) z (OwnAll.keep h3 ⟨fun a ha => k.h a (List.mem_cons_of_mem _ ha), k.f, fun a ha => k.n a (List.mem_cons_of_mem _ ha)⟩) h4
  | _, _, _, _, .mix h0 h1 h2 z1 z2 z3 z4 z5 z6 z7 z8, k => .mix h0 (k.h _ List.mem_cons_self _ h1) (k.n _ List.mem_cons_self h2) z1 z2 z3 (z4.mono k.f) z5 (z6.mono k.f) z7 (z8.mono k.f)
  | _, _, _, _, .obj h0 h1 h2 z h3 h4, k => .obj h0 (k.h _ List.mem_cons_self _ h1) (k.n _ List.mem_cons_self h2) z (OwnAll.keep h3 ⟨fun a ha => k.h a (List.mem_cons_of_mem _ ha), k.f, fun a ha => k.n a (List.mem_cons_of_mem _ ha)⟩) h4
  | _, _, _, _, .opt r h, k => .opt (r.mono k.f) h
theorem OwnAll.keep : ∀ {f : Nat → Shape} {n : Nat} {vs : List V} {ds : List D} {A : List Addr}, OwnAll G F H f n vs ds A → Keep A F H F' H' → OwnAll G F' H' f n vs ds A
  | _, _, _, _, _, .nil, _ => .nil
  | _, _, _, _, _, .cons r t x, k => .cons (Own.keep r ⟨fun a ha => k.h a (List.mem_append_left _ ha), k.f, fun a ha => k.n a (List.mem_append_left _ ha)⟩)
      (OwnAll.keep t ⟨fun a ha => k.h a (List.mem_append_right _ ha), k.f, fun a ha => k.n a (List.mem_append_right _ ha)⟩) x
end
mutual
theorem Own.there : ∀ {s : Shape} {v : V} {d : D} {A : List Addr}, Own G F H s v d A → ∀ a ∈ A, F a = none ∧ ∃ o, H a = some o
  | _, _, _, _, .sh _, _, h => nomatch h
  | _, _, _, _, .lst _ h1 h2 h3 _, a, h => (List.mem_cons.mp h).elim (fun e => by subst e; exact ⟨h2, _, h1⟩) (OwnAll.there h3 a)
  | _, _, _, _, .tup _ h1 h2 h3 _, a, h => (List.mem_cons.mp h).elim (fun e => by subst e; exact ⟨h2, _, h1⟩) (OwnAll.there h3 a)
  | _, _, _, _, .dic _ h1 h2 _ _ _ _ _ h3 _, a, h => (List.mem_cons.mp h).elim (fun e => by subst e; exact ⟨h2, _, h1⟩) (OwnAll.there h3 a)
  | _, _, _, _, .dct _ h1 h2 _ h3 _, a, h => (List.mem_cons.mp h).elim (fun e => by subst e; exact ⟨h2, _, h1⟩) (OwnAll.there h3 a)
  | _, _, _, _, .mix _ h1 h2 .., a, h => by rw [List.mem_singleton.mp h]; exact ⟨h2, _, h1⟩
  | _, _, _, _, .obj _ h1 h2 _ h3 _, a, h => (List.mem_cons.mp h).elim (fun e => by subst e; exact ⟨h2, _, h1⟩) (OwnAll.there h3 a)
theorem OwnAll.there : ∀ {f : Nat → Shape} {n : Nat} {vs : List V} {ds : List D} {A : List Addr}, OwnAll G F H f n vs ds A → ∀ a ∈ A, F a = none ∧ ∃ o, H a = some o
  | _, _, _, _, _, .nil, _, h => nomatch h
  | _, _, _, _, _, .cons r t _, a, h => (List.mem_append.mp h).elim (Own.there r a) (OwnAll.there t a)
end
mutual
theorem Own.nt : ∀ {s : Shape} {v : V} {d : D} {A : List Addr}, Own G F H s v d A → ∀ a ∈ A, ∀ ps, H a ≠ some (.tbl ps)
  | _, _, _, _, .sh _, _, h => nomatch h
  | _, _, _, _, .lst _ h1 h2 h3 _, a, h => (List.mem_cons.mp h).elim (fun e ps z => by subst e; rw [h1] at z; cases z) (OwnAll.nt h3 a)
  | _, _, _, _, .tup _ h1 h2 h3 _, a, h => (List.mem_cons.mp h).elim (fun e ps z => by subst e; rw [h1] at z; cases z) (OwnAll.nt h3 a)
  | _, _, _, _, .dic _ h1 h2 _ _ _ _ _ h3 _, a, h => (List.mem_cons.mp h).elim (fun e ps z => by subst e; rw [h1] at z; cases z) (OwnAll.nt h3 a)
  | _, _, _, _, .dct _ h1 h2 _ h3 _, a, h => (List.mem_cons.mp h).elim (fun e ps z => by subst e; rw [h1] at z; cases z) (OwnAll.nt h3 a)
  | _, _, _, _, .mix _ h1 .., a, h => fun ps z => by rw [List.mem_singleton.mp h, h1] at z; cases z
  | _, _, _, _, .obj _ h1 h2 _ h3 _, a, h => (List.mem_cons.mp h).elim (fun e ps z => by subst e; rw [h1] at z; cases z) (OwnAll.nt h3 a)
theorem OwnAll.nt : ∀ {f : Nat → Shape} {n : Nat} {vs : List V} {ds : List D} {A : List Addr}, OwnAll G F H f n vs ds A → ∀ a ∈ A, ∀ ps, H a ≠ some (.tbl ps)
  | _, _, _, _, _, .nil, _, h => nomatch h
  | _, _, _, _, _, .cons r t _, a, h => (List.mem_append.mp h).elim (Own.nt r a) (OwnAll.nt t a)
end
mutual
theorem Own.nc : ∀ {s : Shape} {v : V} {d : D} {A : List Addr}, Own G F H s v d A → ∀ a ∈ A, ∀ o u, H a ≠ some (.frz o u)
  | _, _, _, _, .sh _, _, h => nomatch h
  | _, _, _, _, .lst _ h1 h2 h3 _, a, h => (List.mem_cons.mp h).elim (fun e o u z => by subst e; rw [h1] at z; cases z) (OwnAll.nc h3 a)
  | _, _, _, _, .tup _ h1 h2 h3 _, a, h => (List.mem_cons.mp h).elim (fun e o u z => by subst e; rw [h1] at z; cases z) (OwnAll.nc h3 a)
  | _, _, _, _, .dic _ h1 h2 _ hd _ _ _ h3 _, a, h => (List.mem_cons.mp h).elim (fun e o u z => by subst e; rw [h1] at z; cases z) (OwnAll.nc h3 a)
  | _, _, _, _, .dct _ h1 h2 _ h3 _, a, h => (List.mem_cons.mp h).elim (fun e o u z => by subst e; rw [h1] at z; cases z) (OwnAll.nc h3 a)
  | _, _, _, _, .mix _ h1 .., a, h => fun o u z => by rw [List.mem_singleton.mp h, h1] at z; cases z
  | _, _, _, _, .obj _ h1 h2 _ h3 _, a, h => (List.mem_cons.mp h).elim (fun e o u z => by subst e; rw [h1] at z; cases z) (OwnAll.nc h3 a)
theorem OwnAll.nc : ∀ {f : Nat → Shape} {n : Nat} {vs : List V} {ds : List D} {A : List Addr}, OwnAll G F H f n vs ds A → ∀ a ∈ A, ∀ o u, H a ≠ some (.frz o u)
  | _, _, _, _, _, .nil, _, h => nomatch h
  | _, _, _, _, _, .cons r t _, a, h => (List.mem_append.mp h).elim (Own.nc r a) (OwnAll.nc t a)
end
theorem Own.grow {s : Shape} {v : V} {d : D} {A : List Addr} (o : Own G F H s v d A) (g : Grow F H F' H') : Own G F' H' s v d A := o.keep (g.keep (fun a ha => (o.there a ha).2) o.nt)
/-- the own parts become shared -/
noncomputable def share (F H : Hp) (A : List Addr) : Hp := fun b => if b ∈ A then H b else F b
theorem share_sub (s : Same F H) (A : List Addr) : Same (share F H A) H := fun b o e => by
  unfold share at e
  split at e
  · exact e
  · exact s b o e
theorem share_same (s : Same F H) (A : List Addr) : Same F (share F H A) := fun b o e => by
  unfold share
  split
  · exact s b o e
  · exact e
/-- .. and nothing else changes -/
theorem Stays.share {A : List Addr} (st : Stays F H F' H') (sub : Same F' H') (hn : ∀ a ∈ A, ∀ ps, H' a ≠ some (.tbl ps)) : Stays F H (share F' H' A) H' := ⟨st.at', st.tb, fun P h => by
  obtain ⟨h0, ps, h1, h2, h3⟩ := st.tf P h
  have hP : P ∉ A := fun z => hn P z ps h1
  refine ⟨by unfold Mir.share; rw [if_neg hP]; exact h0, ps, h1, h2, fun pos cv e => ?_⟩
  obtain ⟨c, oc, a, b, z⟩ := h3 pos cv e
  exact ⟨c, oc, a, share_same sub A c _ b, z⟩⟩
/-- what was lent is one's own again -/
theorem Stays.unshare {A : List Addr} {F2 : Hp} (st : Stays (Mir.share F H A) H F' H') (sub : Same F H) (f : Same (Mir.share F H A) F') (ht : ∀ a ∈ A, ∃ o, H a = some o) (hn : ∀ a ∈ A, ∀ ps, H a ≠ some (.tbl ps)) (hc : ∀ a ∈ A, ∀ o u, H a ≠ some (.frz o u))
    (h2 : ∀ a, a ∉ A → F2 a = F' a) : Stays F H F2 H' := ⟨st.at', st.tb, fun P h => by
  have hP : P ∉ A := fun z => by
    obtain ⟨_, ps, h1, _⟩ := h
    exact hn P z ps h1
  obtain ⟨h0, ps, h1, h3, h4⟩ := st.tf P ((Stays.refl.share sub hn).tf P h)
  refine ⟨by rw [h2 P hP]; exact h0, ps, h1, h3, fun pos cv e => ?_⟩
  obtain ⟨c, oc, a, b, w⟩ := h4 pos cv e
  refine ⟨c, oc, a, ?_, w⟩
  rw [h2 c fun z => ?_]
  · exact b
  · obtain ⟨o, ho⟩ := ht c z
    have e1 : Mir.share F H A c = some o := by unfold Mir.share; rw [if_pos z]; exact ho
    have := f c o e1
    rw [b] at this
    cases this
    exact hc c z _ _ ho⟩
theorem share_at {A : List Addr} {a : Addr} (h : a ∈ A) : share F H A a = H a := if_pos h
theorem share_ne {A : List Addr} {a : Addr} (h : a ∉ A) : share F H A a = F a := if_neg h
mutual
theorem Own.rep (s : Same F H) : ∀ {sp : Shape} {v : V} {d : D} {A : List Addr}, Own G F H sp v d A → ∀ B : List Addr, (∀ a ∈ A, a ∈ B) → Rep G (share F H B) v d
  | _, _, _, _, .sh r, B, _ => r.mono (share_same s B)
  | _, _, _, _, .lst _ h1 _ h3 _, B, hB => .lst ((share_at (hB _ List.mem_cons_self)).trans h1) (OwnAll.rep s h3 B fun a ha => hB a (List.mem_cons_of_mem _ ha))
  | _, _, _, _, .tup _ h1 _ h3 _, B, hB => .tup (.of ((share_at (hB _ List.mem_cons_self)).trans h1)) (OwnAll.rep s h3 B fun a ha => hB a (List.mem_cons_of_mem _ ha))
  | _, _, _, _, .dic _ h1 _ z1 z2 z3 z4 z5 h3 _, B, hB => .dic ((share_at (hB _ List.mem_cons_self)).trans h1) z1 z2 z3 (z4.mono (share_same s B)) z5 (OwnAll.rep s h3 B fun a ha => hB a (List.mem_cons_of_mem _ ha))
  | _, _, _, _, .dct _ h1 _ z h3 _, B, hB => .dct ((share_at (hB _ List.mem_cons_self)).trans h1) z (OwnAll.rep s h3 B fun a ha => hB a (List.mem_cons_of_mem _ ha))
  | _, _, _, _, .mix _ h1 _ z1 z2 z3 z4 z5 z6 z7 z8, B, hB => .mix ((share_at (hB _ List.mem_cons_self)).trans h1) z1 z2 z3 (z4.mono (share_same s B)) z5 (z6.mono (share_same s B)) z7 (z8.mono (share_same s B))
  | _, _, _, _, .obj _ h1 _ z h3 _, B, hB => .obj ((share_at (hB _ List.mem_cons_self)).trans h1) z (OwnAll.rep s h3 B fun a ha => hB a (List.mem_cons_of_mem _ ha))
  | _, _, _, _, .opt r _, B, _ => r.mono (share_same s B)
theorem OwnAll.rep (s : Same F H) : ∀ {f : Nat → Shape} {n : Nat} {vs : List V} {ds : List D} {A : List Addr}, OwnAll G F H f n vs ds A → ∀ B : List Addr, (∀ a ∈ A, a ∈ B) → RepAll G (share F H B) vs ds
  | _, _, _, _, _, .nil, _, _ => .nil
  | _, _, _, _, _, .cons r t _, B, hB => .cons (Own.rep s r B fun a ha => hB a (List.mem_append_left _ ha)) (OwnAll.rep s t B fun a ha => hB a (List.mem_append_right _ ha))
end
theorem OwnAll.of_rep : ∀ {vs : List V} {ds : List D} {n : Nat}, RepAll G F vs ds → OwnAll G F H (fun _ => .sh) n vs ds []
  | _, _, _, .nil => .nil
  | _, _, _, .cons r t => OwnAll.cons (A := []) (B := []) (.sh r) (OwnAll.of_rep t) (fun _ z => nomatch z)
theorem OwnAll.to_rep : ∀ {vs : List V} {ds : List D} {n : Nat} {A : List Addr}, OwnAll G F H (fun _ => .sh) n vs ds A → A = [] ∧ RepAll G F vs ds
  | _, _, _, _, .nil => ⟨rfl, .nil⟩
  | _, _, _, _, .cons r t _ => by
    cases r with
    | sh r =>
      obtain ⟨e, t'⟩ := OwnAll.to_rep t
      subst e
      exact ⟨rfl, .cons r t'⟩
    | lst h => cases h
    | tup h => cases h
    | dic h => cases h
    | dct h => cases h
    | mix h => cases h
    | obj h => cases h
end
end Mir
namespace Mir
open PySem PySem.Spec PyProof.Rows L2
variable [Tn]
inductive Slot where
  | un | sh (d : D) | ow (s : Shape) (d : D)
noncomputable abbrev Env := List Slot
/-- to be read: shared, or one's own with shared parts -/
noncomputable def RdD (G : GC) (F H : Hp) (v : V) (d : D) : Prop := Rep G F v d ∨ ∃ A, Own G F H .flat v d A
noncomputable def getS (i : Nat) (r : Env) : Res D := match r[i]? with
  | some (.sh d) => .ok d
  | _ => .bad
noncomputable def getR (i : Nat) (r : Env) : Res D := match r[i]? with
  | some (.sh d) => .ok d
  | some (.ow .flat d) => .ok d
  | _ => .bad
noncomputable def freeze (i : Nat) (r : Env) : Env := match r[i]? with
  | some (.ow _ d) => r.set i (.sh d)
  | _ => r
/-- what is wished of an exception; what stays true of the names' values -/
structure Wi where
  w : WX
  J : L2.St → Prop
/-- the state of a def: slots, heap; fp i: the addresses that the i-th name owns -/
structure MS (G : GC) (J : L2.St → Prop) (H0 F0 : Hp) (fp : Nat → List Addr) (F : Hp) (σ : L2.St) (H : Hp) (r : Env) : Prop where
  jo : J σ
  s0 : Stays F0 H0 F H
  f0 : Same F0 F
  sub : Same F H
  new : ∀ a o, F a = some o → F0 a = some o ∨ H0 a = none
  len : r.length = σ.length
  sh : ∀ (i : Nat) (d : D), r[i]? = some (.sh d) → ∃ v, σ[i]? = some (some v) ∧ Rep G F v d
  ow : ∀ (i : Nat) (s : Shape) (d : D), r[i]? = some (.ow s d) → (∃ v, σ[i]? = some (some v) ∧ Own G F H s v d (fp i)) ∧ ∀ a ∈ fp i, H0 a = none
  ap : ∀ (i j : Nat) (s t : Shape) (d e : D), i ≠ j → r[i]? = some (.ow s d) → r[j]? = some (.ow t e) → ∀ a ∈ fp i, a ∉ fp j
  t0 : Tt F0 H0
section
variable {G : GC} {J : L2.St → Prop} {H0 F0 F H F' H' : Hp} {fp : Nat → List Addr} {σ : L2.St} {r : Env}
theorem MS.grow (m : MS G J H0 F0 fp F σ H r) (g : Grow F H F' H') : MS G J H0 F0 fp F' σ H' r where
  jo := m.jo
  s0 := m.s0.trans g.h
  f0 := m.f0.trans g.f
  sub := g.sub
  new := fun a o e => (g.new a o e).elim (m.new a o) fun q => .inr (m.s0.free q)
  len := m.len
  sh := fun i d e => let ⟨v, h1, h2⟩ := m.sh i d e; ⟨v, h1, h2.mono g.f⟩
  ow := fun i s d e => let ⟨⟨v, h1, h2⟩, h3⟩ := m.ow i s d e; ⟨⟨v, h1, h2.grow g⟩, h3⟩
  ap := m.ap
  t0 := m.t0
theorem MS.tt (m : MS G J H0 F0 fp F σ H r) : Tt F H := m.s0.tt m.t0
theorem MS.getS (m : MS G J H0 F0 fp F σ H r) {i : Nat} {d : D} (h : getS i r = .ok d) : ∃ v, σ[i]? = some (some v) ∧ Rep G F v d := by
  unfold Mir.getS at h
  split at h
  · rename_i e; cases h; exact m.sh i _ e
  · cases h
theorem getS_not_er {i : Nat} {e : D} {r : Env} (h : Mir.getS i r = .er e) : False := by
  unfold Mir.getS at h
  split at h <;> cases h
theorem getR_not_er {i : Nat} {e : D} {r : Env} (h : Mir.getR i r = .er e) : False := by
  unfold Mir.getR at h
  split at h <;> cases h
theorem MS.getR (m : MS G J H0 F0 fp F σ H r) {i : Nat} {d : D} (h : getR i r = .ok d) : ∃ v, σ[i]? = some (some v) ∧ RdD G F H v d := by
  unfold Mir.getR at h
  split at h
  · rename_i e
    cases h
    obtain ⟨v, h1, h2⟩ := m.sh i _ e
    exact ⟨v, h1, .inl h2⟩
  · rename_i _ e
    cases h
    obtain ⟨⟨v, h1, h2⟩, _⟩ := m.ow i _ _ e
    exact ⟨v, h1, .inr ⟨_, h2⟩⟩
  · cases h
theorem get_set_slot {r : Env} {i j : Nat} {x y : Slot} (h : (r.set i x)[j]? = some y) : (i = j ∧ x = y ∧ i < r.length) ∨ (i ≠ j ∧ r[j]? = some y) := by
  by_cases e : i = j
  · subst e
    by_cases hl : i < r.length
    · rw [List.getElem?_set_self hl] at h
      exact .inl ⟨rfl, Option.some.inj h, hl⟩
    · rw [List.getElem?_eq_none (by simpa using hl)] at h
      cases h
  · rw [List.getElem?_set_ne e] at h
    exact .inr ⟨e, h⟩
/-- a shared value is put into the i-th name -/
theorem MS.setS (m : MS G J H0 F0 fp F σ H r) {v : V} {d : D} (i : Nat) (q : Rep G F v d) (hJ : ∀ σ v, J σ → J (σ.set i v)) : MS G J H0 F0 fp F (σ.set i (some v)) H (r.set i (.sh d)) where
  jo := hJ _ _ m.jo
  s0 := m.s0
  f0 := m.f0
  sub := m.sub
  new := m.new
  len := by simpa using m.len
  sh := fun j e h => by
    rcases get_set_slot h with ⟨rfl, x, hl⟩ | ⟨ne, h⟩
    · cases x
      exact ⟨v, List.getElem?_set_self (by rw [← m.len]; exact hl), q⟩
    · rw [List.getElem?_set_ne ne]
      exact m.sh j e h
  ow := fun j s e h => by
    rcases get_set_slot h with ⟨_, x, _⟩ | ⟨ne, h⟩
    · cases x
    · rw [List.getElem?_set_ne ne]
      exact m.ow j s e h
  ap := fun j k s t d e n h1 h2 => by
    rcases get_set_slot h1 with ⟨_, x, _⟩ | ⟨_, h1⟩
    · cases x
    · rcases get_set_slot h2 with ⟨_, x, _⟩ | ⟨_, h2⟩
      · cases x
      · exact m.ap j k s t d e n h1 h2
  t0 := m.t0
/-- an owned value is put into the i-th name -/
theorem MS.setO (m : MS G J H0 F0 fp F σ H r) {v : V} {d : D} {s : Shape} {A : List Addr} (i : Nat) (q : Own G F H s v d A) (hn : ∀ a ∈ A, H0 a = none) (hd : ∀ (j : Nat) (t : Shape) (e : D), j ≠ i → r[j]? = some (.ow t e) → ∀ a ∈ A, a ∉ fp j) (hJ : ∀ σ v, J σ → J (σ.set i v)) :
    MS G J H0 F0 (fun j => if j = i then A else fp j) F (σ.set i (some v)) H (r.set i (.ow s d)) where
  jo := hJ _ _ m.jo
  s0 := m.s0
  f0 := m.f0
  sub := m.sub
  new := m.new
  len := by simpa using m.len
  sh := fun j e h => by
    rcases get_set_slot h with ⟨_, x, _⟩ | ⟨ne, h⟩
    · cases x
    · rw [List.getElem?_set_ne ne]
      exact m.sh j e h
  ow := fun j s e h => by
    rcases get_set_slot h with ⟨rfl, x, hl⟩ | ⟨ne, h⟩
    · cases x
      rw [if_pos rfl]
      exact ⟨⟨v, List.getElem?_set_self (by rw [← m.len]; exact hl), q⟩, hn⟩
    · rw [List.getElem?_set_ne ne, if_neg (Ne.symm ne)]
      exact m.ow j s e h
  ap := fun j k s t d e n h1 h2 a => by
    rcases get_set_slot h1 with ⟨rfl, x, _⟩ | ⟨n1, h1⟩
    · rcases get_set_slot h2 with ⟨z, _, _⟩ | ⟨n2, h2⟩
      · exact absurd z n
      · cases x
        rw [if_pos rfl, if_neg (Ne.symm n2)]
        exact hd k t e (Ne.symm n2) h2 a
    · rcases get_set_slot h2 with ⟨rfl, x, _⟩ | ⟨n2, h2⟩
      · cases x
        rw [if_pos rfl, if_neg (Ne.symm n1)]
        exact fun ha hb => hd j s d (Ne.symm n1) h1 a hb ha
      · rw [if_neg (Ne.symm n1), if_neg (Ne.symm n2)]
        exact m.ap j k s t d e n h1 h2 a
  t0 := m.t0
/-- the i-th name's own parts become shared -/
theorem MS.freeze (m : MS G J H0 F0 fp F σ H r) (i : Nat) : ∃ F', Same F F' ∧ MS G J H0 F0 fp F' σ H (Mir.freeze i r) := by
  unfold Mir.freeze
  split
  · rename_i s d e
    obtain ⟨⟨v, h1, h2⟩, h3⟩ := m.ow i s d e
    refine ⟨share F H (fp i), share_same m.sub _, ?_⟩
    have hi : i < r.length := (List.getElem?_eq_some_iff.mp e).1
    refine ⟨m.jo, m.s0.share m.sub h2.nt, m.f0.trans (share_same m.sub _), share_sub m.sub _, fun a o q => ?_, by simpa using m.len, fun j e' h => ?_, fun j t e' h => ?_, fun j k t u d' e' n q1 q2 => ?_, m.t0⟩
    · by_cases ha : a ∈ fp i
      · exact .inr (h3 a ha)
      · rw [share_ne ha] at q
        exact m.new a o q
    · rcases get_set_slot h with ⟨rfl, x, hl⟩ | ⟨ne, h⟩
      · cases x
        exact ⟨v, h1, h2.rep m.sub _ fun _ z => z⟩
      · obtain ⟨w, q1, q2⟩ := m.sh j e' h
        exact ⟨w, q1, q2.mono (share_same m.sub _)⟩
    · rcases get_set_slot h with ⟨_, x, _⟩ | ⟨ne, h⟩
      · cases x
      · obtain ⟨⟨w, q1, q2⟩, q3⟩ := m.ow j t e' h
        refine ⟨⟨w, q1, q2.keep ⟨fun _ _ _ z => z, share_same m.sub _, fun a ha z => ?_⟩⟩, q3⟩
        rw [share_ne (m.ap j i t s e' d (Ne.symm ne) h e a ha)]
        exact z
    · rcases get_set_slot q1 with ⟨_, x, _⟩ | ⟨_, q1⟩
      · cases x
      · rcases get_set_slot q2 with ⟨_, x, _⟩ | ⟨_, q2⟩
        · cases x
        · exact m.ap j k t u d' e' n q1 q2
  · exact ⟨F, Same.refl _, m⟩
end
inductive Kd where
  | S | R
  | O (s : Shape)
  | X (p : Addr) (s : Shape)
/-- what may be read -/
noncomputable def Kd.rd : Kd → Bool
  | .O (.parts _) => false
  | .O (.opts _) => false
  | .X _ _ => false
  | _ => true
/-- v bears d: shared; to be read; one's own and new since H -/
noncomputable def Kd.Rep (G : GC) (H F' H' : Hp) (v : V) (d : D) : Kd → Prop
  | .S => Mir.Rep G F' v d
  | .R => RdD G F' H' v d
  | .O s => ∃ A, Own G F' H' s v d A ∧ ∀ a ∈ A, H a = none
  | .X p s => ∃ d1 d2 A, d = .tup [d1, d2] ∧ Mir.Rep G F' v d1 ∧ Own G F' H' s (.ref p) d2 A ∧ ∀ a ∈ A, H a = none
/-- an exception in the air is the datum e -/
noncomputable def ExcIs (G : GC) (F : Hp) (cls : Value) (dd : Option Addr) (e : D) : Prop :=
  ∃ (c : Nat) (ws : List V) (vs : List D), e = .exc c vs ∧ cls = .ref (G.ca c) ∧ RepAll G F ws vs ∧
    ((dd = none ∧ cflds c = [] ∧ ws = []) ∨ ∃ dx, dd = some dx ∧ F dx = some (.xd ((cflds c).zip ws)) ∧ ws.length = (cflds c).length)
/-- what is due of an answer: behind it P; of an exception: the wish -/
noncomputable def Out (G : GC) (W : Wi) (σ : L2.St) {α : Type} (F H : Hp) (P : Hp → Hp → α → Prop) : Res α → Prop
  | .ok a => ∀ F' H', Grow F H F' H' → P F' H' a
  | .er e => ∀ cls dd F' H', Grow F H F' H' → ExcIs G F' cls dd e → W.w cls dd σ H'
  | .bad => False
/-- the reading of an expression of worth f -/
noncomputable def tE (G : GC) (W : Wi) (k : Kd) (f : Env → Res D) : TE := fun σ H Q => ∃ H0 F0 fp F r, MS G W.J H0 F0 fp F σ H r ∧ Out G W σ F H (fun F' H' d => ∀ v, k.Rep G H F' H' v d → Q v H') (f r)
noncomputable def tT (G : GC) (W : Wi) (f : Env → Res Bool) : TT := fun σ H Q => ∃ H0 F0 fp F r, MS G W.J H0 F0 fp F σ H r ∧ Out G W σ F H (fun F' H' b => Q b H') (f r)
noncomputable def tA (G : GC) (W : Wi) (f : Env → Res (List D)) : TA := fun σ H Q => ∃ H0 F0 fp F r, MS G W.J H0 F0 fp F σ H r ∧ Out G W σ F H (fun F' H' ds => ∀ vs, RepAll G F' vs ds → Q vs H') (f r)
noncomputable abbrev RE (X : Cx) (W : Wi) (k : Kd) (e : Expr) (f : Env → Res D) : Prop := PE X e (tE (gOf X) W k f)
noncomputable abbrev RT (X : Cx) (W : Wi) (e : Expr) (f : Env → Res Bool) : Prop := PT X e (tT (gOf X) W f)
noncomputable abbrev RA (X : Cx) (W : Wi) (es : List Expr) (f : Env → Res (List D)) : Prop := PA X es (tA (gOf X) W f)
theorem _root_.L2.PE.imp {X : Cx} {e : Expr} {t t' : TE} (h : PE X e t) (i : ∀ σ H Q, t' σ H Q → t σ H Q) : PE X e t' := ⟨fun pins s σ H Q I hw => h.run pins s σ H Q I (i σ H Q hw)⟩
theorem _root_.L2.PT.imp {X : Cx} {e : Expr} {t t' : TT} (h : PT X e t) (i : ∀ σ H Q, t' σ H Q → t σ H Q) : PT X e t' := ⟨fun pins s σ H Q I hw => h.run pins s σ H Q I (i σ H Q hw)⟩
theorem _root_.L2.PW.imp {X : Cx} {e : Expr} {t t' : TT} (h : PW X e t) (i : ∀ σ H Q, t' σ H Q → t σ H Q) : PW X e t' := ⟨fun wh pins s σ H Q I hw => h.run wh pins s σ H Q I (i σ H Q hw)⟩
theorem _root_.L2.PA.imp {X : Cx} {e : List Expr} {t t' : TA} (h : PA X e t) (i : ∀ σ H Q, t' σ H Q → t σ H Q) : PA X e t' := ⟨fun pos pins s σ H Q I hw => h.run pos pins s σ H Q I (i σ H Q hw)⟩
theorem _root_.L2.PS.imp {X : Cx} {e : Stmt} {t t' : TS} (h : PS X e t) (i : ∀ D σ H, t' D σ H → t D σ H) : PS X e t' := ⟨fun pins s σ H D I hw => h.run pins s σ H D I (i D σ H hw)⟩
theorem _root_.L2.PSs.imp {X : Cx} {e : List Stmt} {t t' : TS} (h : PSs X e t) (i : ∀ D σ H, t' D σ H → t D σ H) : PSs X e t' := ⟨fun pins s σ H D I hw => h.run pins s σ H D I (i D σ H hw)⟩
section
variable {G : GC} {J : L2.St → Prop} {W : Wi} {k : Kd} {σ : L2.St} {H F H1 F1 : Hp} {H0 F0 : Hp} {fp : Nat → List Addr} {r : Env} {α β : Type}
theorem Kd.R_of {k : Kd} {H F' H' : Hp} {v : V} {d : D} (hk : k.rd = true) (h : k.Rep G H F' H' v d) : Kd.R.Rep G H F' H' v d := by
  cases k with
  | S => exact Or.inl h
  | R => exact h
  | O s =>
    obtain ⟨A, ow, _⟩ := h
    cases s with
    | sh =>
      cases ow with
      | sh r => exact Or.inl r
      | lst h => cases h
      | tup h => cases h
      | dic h => cases h
      | dct h => cases h
      | mix h => cases h
      | obj h => cases h
    | flat => exact Or.inr ⟨A, ow⟩
    | parts l => cases hk
    | opts l => cases hk
  | X p s => cases hk
theorem Kd.Rep.later (s : Fre H H1) : ∀ {k : Kd} {F' H' : Hp} {v : V} {d : D}, k.Rep G H1 F' H' v d → k.Rep G H F' H' v d
  | .S, _, _, _, _, h => h
  | .R, _, _, _, _, h => h
  | .O _, _, _, _, _, ⟨A, h, n⟩ => ⟨A, h, fun a ha => s a (n a ha)⟩
  | .X _ _, _, _, _, _, ⟨d1, d2, A, e, q, h, n⟩ => ⟨d1, d2, A, e, q, h, fun a ha => s a (n a ha)⟩
/-- it stays while the heap grows -/
theorem Kd.Rep.grow {H F1 H1 F2 H2 : Hp} (g : Grow F1 H1 F2 H2) : ∀ {k : Kd} {v : V} {d : D}, k.Rep G H F1 H1 v d → k.Rep G H F2 H2 v d
  | .S, _, _, h => Mir.Rep.mono g.f h
  | .R, _, _, .inl h => .inl (Mir.Rep.mono g.f h)
  | .R, _, _, .inr ⟨A, h⟩ => .inr ⟨A, h.grow g⟩
  | .O _, _, _, ⟨A, h, n⟩ => ⟨A, h.grow g, n⟩
  | .X _ _, _, _, ⟨d1, d2, A, e, q, h, n⟩ => ⟨d1, d2, A, e, Mir.Rep.mono g.f q, h.grow g, n⟩
theorem Out.grow {P : Hp → Hp → α → Prop} {x : Res α} (h : Out G W σ F H P x) (g : Grow F H F1 H1) : Out G W σ F1 H1 P x := by
  cases x with
  | ok a => exact fun F' H' q => h F' H' (g.trans q)
  | er e => exact fun cls dd F' H' q => h cls dd F' H' (g.trans q)
  | bad => exact h
theorem Out.imp {P P' : Hp → Hp → α → Prop} {x : Res α} (h : Out G W σ F H P x) (i : ∀ F' H' a, Grow F H F' H' → P F' H' a → P' F' H' a) : Out G W σ F H P' x := by
  cases x with
  | ok a => exact fun F' H' q => i F' H' a q (h F' H' q)
  | er e => exact h
  | bad => exact h
/-- behind the first of two -/
theorem Out.bind {P : Hp → Hp → β → Prop} {P1 : Hp → Hp → α → Prop} {x : Res α} {g : α → Res β} (h : Out G W σ F H P (x >>= g)) (i : ∀ F' H' a, Grow F H F' H' → Out G W σ F' H' P (g a) → P1 F' H' a) : Out G W σ F H P1 x := by
  cases x with
  | ok a => exact fun F' H' q => i F' H' a q (Out.grow h q)
  | er e => exact h
  | bad => exact h
theorem Out.val {P : Hp → Hp → α → Prop} {x : Res α} {a : α} (h : Out G W σ F H P x) (e : x = .ok a) (s : Same F H) : P F H a := by
  subst e
  exact h F H (Grow.refl s)
end
section
variable {X : Cx} {W : Wi}
theorem re_var (i : Nat) {x : Str} {pos : Pos} (hN : X.N[i]? = some x := by rfl) (hv : Vis X.env.scope x := by first | exact Or.inl rfl | exact Or.inr (Or.inl rfl) | exact Or.inr (Or.inr rfl)) (hd : (x == ("__debug__" : Str)) = false := by decide)
    (hcd : (x == ("__classdict__" : Str)) = false := by decide) : RE X W .S (.Name x pos) (getS i) := by
  refine (pe_var hN hv hd hcd).imp fun σ H Q ⟨H0, F0, fp, F, r, m, o⟩ => ?_
  cases e : getS i r with
  | ok d =>
    obtain ⟨v, h1, h2⟩ := m.getS e
    exact ⟨v, h1, o.val e m.sub v h2⟩
  | er x => exact (getS_not_er e).elim
  | bad => rw [e] at o; exact o.elim
theorem re_varR (i : Nat) {x : Str} {pos : Pos} (hN : X.N[i]? = some x := by rfl) (hv : Vis X.env.scope x := by first | exact Or.inl rfl | exact Or.inr (Or.inl rfl) | exact Or.inr (Or.inr rfl)) (hd : (x == ("__debug__" : Str)) = false := by decide)
    (hcd : (x == ("__classdict__" : Str)) = false := by decide) : RE X W .R (.Name x pos) (getR i) := by
  refine (pe_var hN hv hd hcd).imp fun σ H Q ⟨H0, F0, fp, F, r, m, o⟩ => ?_
  cases e : getR i r with
  | ok d =>
    obtain ⟨v, h1, h2⟩ := m.getR e
    exact ⟨v, h1, o.val e m.sub v h2⟩
  | er x => exact (getR_not_er e).elim
  | bad => rw [e] at o; exact o.elim
theorem re_cst {e : Expr} {v : V} {d : D} (h : PE X e (tC v)) (r : ∀ F, Rep (gOf X) F v d) : RE X W .S e (fun _ => .ok d) :=
  h.imp fun σ H Q ⟨H0, F0, fp, F, _, m, o⟩ => o F H (Grow.refl m.sub) v (r F)
theorem re_int {i j pos} : RE X W .S (.Constant (.int i) j pos) (fun _ => .ok (.int i)) := re_cst pe_int fun _ => .int i
theorem re_bl {b j pos} : RE X W .S (.Constant (.bool b) j pos) (fun _ => .ok (.bl b)) := re_cst pe_bl fun _ => .bl b
theorem re_non {j pos} : RE X W .S (.Constant .none j pos) (fun _ => .ok .non) := re_cst pe_non fun _ => .non
theorem re_str {x j pos} : RE X W .S (.Constant (.str x) j pos) (fun _ => .ok (.str x)) := re_cst pe_str fun _ => .str x
/-- a shared value, one's own: to be read -/
theorem re_rd {k : Kd} {e : Expr} {f : Env → Res D} (h : RE X W k e f) (hk : k.rd = true := by rfl) : RE X W .R e f :=
  h.imp fun σ H Q ⟨H0, F0, fp, F, r, m, o⟩ => ⟨H0, F0, fp, F, r, m, o.imp fun F' H' d _ p v kr => p v (Kd.R_of hk kr)⟩
/-- one's own is shared -/
theorem re_share {s : Shape} {e : Expr} {f : Env → Res D} (h : RE X W (.O s) e f) : RE X W .S e f :=
  h.imp fun σ H Q ⟨H0, F0, fp, F, r, m, o⟩ => ⟨H0, F0, fp, F, r, m, by
    cases e : f r with
    | ok d =>
      rw [e] at o
      intro F' H' g v ⟨A, ow, n⟩
      refine o (share F' H' A) H' ⟨g.h.share g.sub ow.nt, g.f.trans (share_same g.sub A), share_sub g.sub A, fun a u q => ?_⟩ v (ow.rep g.sub A fun _ z => z)
      by_cases ha : a ∈ A
      · exact .inr (n a ha)
      · rw [share_ne ha] at q
        exact g.new a u q
    | er x => rw [e] at o; exact o
    | bad => rw [e] at o; exact o⟩
theorem ra_nil : RA X W [] (fun _ => .ok []) := pa_nil.imp fun σ H Q ⟨H0, F0, fp, F, r, m, o⟩ => o F H (Grow.refl m.sub) [] .nil
theorem ra_cons {e : Expr} {es : List Expr} {f : Env → Res D} {g : Env → Res (List D)} (he : RE X W .S e f) (hr : RA X W es g) (hs : starEach (e :: es) X.env = (false, eval e X.env) :: starEach es X.env := by rfl) :
    RA X W (e :: es) (fun r => f r >>= fun d => g r >>= fun ds => .ok (d :: ds)) :=
  (pa_cons he hr hs).imp fun σ H Q ⟨H0, F0, fp, F, r, m, o⟩ => ⟨H0, F0, fp, F, r, m, o.bind fun F1 H1 d g1 o1 v kv =>
    ⟨H0, F0, fp, F1, r, m.grow g1, o1.bind fun F2 H2 ds g2 o2 vs rv => o2 F2 H2 (Grow.refl g2.sub) (v :: vs) (.cons (Mir.Rep.mono g2.f kv) rv)⟩⟩
end
/-- what an operation by values is worth -/
noncomputable def OpD (G : GC) (rr : R2) (k1 k2 k : Kd) (op : D → D → Res D) : Prop := ∀ (F H : Hp) (x y : V) (a b d : D) (Q : VK) (Ha Hb : Hp), Same F H → k1.Rep G Ha F H x a → k2.Rep G Hb F H y b → op a b = .ok d → (∀ v F' H', Grow F H F' H' → k.Rep G H F' H' v d → Q v H') → rr x y H Q
noncomputable def NoEr2 (op : D → D → Res D) : Prop := ∀ a b e, op a b ≠ .er e
section
variable {X : Cx} {W : Wi} {k1 k2 k : Kd} {a b : Expr} {fa fb : Env → Res D} {pos : Pos} {op : D → D → Res D}
theorem t_op {rr : R2} (h : OpD (gOf X) rr k1 k2 k op) (ne : NoEr2 op) (σ : L2.St) (H : Hp) (Q : VK)
    (t : tE (gOf X) W k (fun r => fa r >>= fun x => fb r >>= fun y => op x y) σ H Q) : tOp rr (tE (gOf X) W k1 fa) (tE (gOf X) W k2 fb) σ H Q := by
  obtain ⟨H0, F0, fp, F, r, m, o⟩ := t
  refine ⟨H0, F0, fp, F, r, m, o.bind fun F1 H1 d g1 o1 v kv => ⟨H0, F0, fp, F1, r, m.grow g1, o1.bind fun F2 H2 e g2 o2 u ku => ?_⟩⟩
  cases z : op d e with
  | ok w =>
    rw [z] at o2
    exact h F2 H2 v u d e w Q _ _ g2.sub (kv.grow g2) ku z fun v' F' H' g kr => o2 F' H' g v' (kr.later (g1.h.trans g2.h).fre)
  | er x => exact (ne _ _ _ z).elim
  | bad => rw [z] at o2; exact o2.elim
theorem re_op {o : Operator} {rr : R2} (ho : OpR X (binaryOp o) rr) (h : OpD (gOf X) rr k1 k2 k op) (ne : NoEr2 op) (ha : RE X W k1 a fa) (hb : RE X W k2 b fb) :
    RE X W k (.BinOp a o b pos) (fun r => fa r >>= fun x => fb r >>= fun y => op x y) := (pe_op ho ha hb).imp (t_op h ne)
theorem re_cmp {o : CmpOp} {rr : R2} (ho : OpR X (compareOp o) rr) (h : OpD (gOf X) rr k1 k2 k op) (ne : NoEr2 op) (ha : RE X W k1 a fa) (hb : RE X W k2 b fb) (hm : behindInMarks o b = false) :
    RE X W k (.Compare a [o] [b] pos) (fun r => fa r >>= fun x => fb r >>= fun y => op x y) := (pe_cmpR ho ha hb hm).imp (t_op h ne)
end
end Mir
namespace Mir
open PySem PySem.Spec PyProof.Rows L2
variable [Tn]
/-- how a block ends -/
inductive Oc where
  | nx (r : Env) | rt (d : D) | bk (r : Env) | ct (r : Env) | er (e : D) (r : Env) | bad
noncomputable def Oc.seq (o : Oc) (g : Env → Oc) : Oc := match o with
  | .nx r => g r
  | o => o
@[simp] theorem nx_seq (r : Env) (g : Env → Oc) : (Oc.nx r).seq g = g r := rfl
@[simp] theorem rt_seq (d : D) (g : Env → Oc) : (Oc.rt d).seq g = .rt d := rfl
@[simp] theorem bk_seq (r : Env) (g : Env → Oc) : (Oc.bk r).seq g = .bk r := rfl
@[simp] theorem ct_seq (r : Env) (g : Env → Oc) : (Oc.ct r).seq g = .ct r := rfl
@[simp] theorem er_seq (e : D) (r : Env) (g : Env → Oc) : (Oc.er e r).seq g = .er e r := rfl
@[simp] theorem bad_seq (g : Env → Oc) : Oc.bad.seq g = .bad := rfl
/-- an expression ahead of the rest -/
noncomputable def lift {α : Type} (x : Res α) (r : Env) (g : α → Oc) : Oc := match x with
  | .ok a => g a
  | .er e => .er e r
  | .bad => .bad
@[simp] theorem lift_ok {α : Type} (a : α) (r : Env) (g : α → Oc) : lift (.ok a) r g = g a := rfl
@[simp] theorem lift_er {α : Type} (e : D) (r : Env) (g : α → Oc) : lift (.er e : Res α) r g = .er e r := rfl
@[simp] theorem lift_bad {α : Type} (r : Env) (g : α → Oc) : lift (.bad : Res α) r g = .bad := rfl
/-- the names behind a target -/
noncomputable def into (x : Res Env) : Oc := match x with
  | .ok r => .nx r
  | _ => .bad
@[simp] theorem into_ok (r : Env) : into (.ok r) = .nx r := rfl
/-- what is due behind a statement -/
noncomputable def OutS (G : GC) (W : Wi) (k : Kd) (H0 F0 F : Hp) (D : Ends) : Oc → Prop
  | .nx r => ∀ fp F' σ' H', Same F F' → MS G W.J H0 F0 fp F' σ' H' r → D.nx σ' H'
  | .rt d => ∀ F' H' v, Same F F' → Grow F0 H0 F' H' → k.Rep G H0 F' H' v d → D.rt v H'
  | .bk r => ∀ fp F' σ' H', Same F F' → MS G W.J H0 F0 fp F' σ' H' r → D.bk σ' H'
  | .ct r => ∀ fp F' σ' H', Same F F' → MS G W.J H0 F0 fp F' σ' H' r → D.ct σ' H'
  | .er e r => ∀ fp F' σ' H' cls dd, Same F F' → MS G W.J H0 F0 fp F' σ' H' r → ExcIs G F' cls dd e → W.w cls dd σ' H'
  | .bad => False
noncomputable def tS (G : GC) (W : Wi) (k : Kd) (g : Env → Oc) : TS := fun D σ H => ∃ H0 F0 fp F r, MS G W.J H0 F0 fp F σ H r ∧ OutS G W k H0 F0 F D (g r)
noncomputable abbrev RS (X : Cx) (W : Wi) (k : Kd) (s : Stmt) (g : Env → Oc) : Prop := PS X s (tS (gOf X) W k g)
noncomputable abbrev RSs (X : Cx) (W : Wi) (k : Kd) (s : List Stmt) (g : Env → Oc) : Prop := PSs X s (tS (gOf X) W k g)
section
variable {G : GC} {W : Wi} {k : Kd} {σ : L2.St} {H F F1 : Hp} {H0 F0 : Hp} {fp : Nat → List Addr} {r : Env} {D : Ends}
theorem MS.g0 {J : L2.St → Prop} (m : MS G J H0 F0 fp F σ H r) : Grow F0 H0 F H := ⟨m.s0, m.f0, m.sub, m.new⟩
theorem OutS.same {o : Oc} (h : OutS G W k H0 F0 F D o) (s : Same F F1) : OutS G W k H0 F0 F1 D o := by
  cases o with
  | nx r => exact fun fp F' σ' H' q m => h fp F' σ' H' (s.trans q) m
  | rt d => exact fun F' H' v q g kr => h F' H' v (s.trans q) g kr
  | bk r => exact fun fp F' σ' H' q m => h fp F' σ' H' (s.trans q) m
  | ct r => exact fun fp F' σ' H' q m => h fp F' σ' H' (s.trans q) m
  | er e r => exact fun fp F' σ' H' cls dd q m x => h fp F' σ' H' cls dd (s.trans q) m x
  | bad => exact h
/-- the first of two -/
theorem OutS.seq {o : Oc} {g : Env → Oc} (h : OutS G W k H0 F0 F D (o.seq g)) : OutS G W k H0 F0 F { D with nx := tS G W k g D } o := by
  cases o with
  | nx r => exact fun fp F' σ' H' q m => ⟨H0, F0, fp, F', r, m, h.same q⟩
  | rt d => exact h
  | bk r => exact h
  | ct r => exact h
  | er e r => exact h
  | bad => exact h
/-- an expression ahead -/
theorem OutS.lift {α : Type} {x : Res α} {g : α → Oc} {P : Hp → Hp → α → Prop} (m : MS G W.J H0 F0 fp F σ H r) (h : OutS G W k H0 F0 F D (lift x r g)) (i : ∀ F' H' a, Grow F H F' H' → OutS G W k H0 F0 F' D (g a) → P F' H' a) : Out G W σ F H P x := by
  cases x with
  | ok a => exact fun F' H' gr => i F' H' a gr (OutS.same h gr.f)
  | er e => exact fun cls dd F' H' gr x => h fp F' σ H' cls dd gr.f (m.grow gr) x
  | bad => exact h
end
section
variable {X : Cx} {W : Wi} {k : Kd}
theorem rss_nil : RSs X W k [] (fun r => .nx r) := pss_nil.imp fun D σ H ⟨H0, F0, fp, F, r, m, o⟩ => o fp F σ H (Same.refl _) m
theorem rss_cons {s : Stmt} {ss : List Stmt} {g1 g2 : Env → Oc} (h1 : RS X W k s g1) (h2 : RSs X W k ss g2) : RSs X W k (s :: ss) (fun r => (g1 r).seq g2) :=
  (pss_cons h1 h2).imp fun D σ H ⟨H0, F0, fp, F, r, m, o⟩ => ⟨H0, F0, fp, F, r, m, o.seq⟩
theorem rss_one {s : Stmt} {g : Env → Oc} (h1 : RS X W k s g) : RSs X W k [s] g := pss_one h1
/-- names that one owns are shared ahead of a statement -/
theorem rs_freeze (i : Nat) {s : Stmt} {g : Env → Oc} (h : RS X W k s g) : RS X W k s (fun r => g (freeze i r)) :=
  h.imp fun D σ H ⟨H0, F0, fp, F, r, m, o⟩ => let ⟨F', s, m'⟩ := m.freeze i; ⟨H0, F0, fp, F', _, m', o.same s⟩
theorem rs_if {c : Expr} {a b : List Stmt} {pos : Pos} {f : Env → Res Bool} {ga gb : Env → Oc} (hc : RT X W c f) (ha : RSs X W k a ga) (hb : RSs X W k b gb) :
    RS X W k (.If c a b pos) (fun r => lift (f r) r fun t => if t = true then ga r else gb r) :=
  (ps_if hc ha hb).imp fun D σ H ⟨H0, F0, fp, F, r, m, o⟩ => ⟨H0, F0, fp, F, r, m, o.lift m fun F' H' t g o' => by
    cases t with
    | true => exact ⟨H0, F0, fp, F', r, m.grow g, o'⟩
    | false => exact ⟨H0, F0, fp, F', r, m.grow g, o'⟩⟩
theorem rs_ret {e : Expr} {pos : Pos} {f : Env → Res D} (he : RE X W k e f) : RS X W k (.Return (some e) pos) (fun r => lift (f r) r fun d => .rt d) :=
  (ps_ret he).imp fun D σ H ⟨H0, F0, fp, F, r, m, o⟩ => ⟨H0, F0, fp, F, r, m, o.lift m fun F' H' d g o' v kv => o' F' H' v (Same.refl _) (m.grow g).g0 (kv.later m.s0.fre)⟩
theorem rs_expr {k' : Kd} {e : Expr} {pos : Pos} {f : Env → Res D} (he : RE X W k' e f) (hs : swapsWith e none pos.line X.env = pure false := by rfl) : RS X W k (.Expr e pos) (fun r => lift (f r) r fun _ => .nx r) :=
  (ps_expr he hs).imp fun D σ H ⟨H0, F0, fp, F, r, m, o⟩ => ⟨H0, F0, fp, F, r, m, o.lift m fun F' H' d g o' v kv => o' fp F' σ H' (Same.refl _) (m.grow g)⟩
theorem jset {i j : Nat} {v0 : Option (Option V)} (h : i ≠ j) : ∀ (σ : L2.St) (v : Option V), σ[j]? = v0 → (σ.set i v)[j]? = v0 := fun σ v e => (List.getElem?_set_ne h).trans e
/-- .. and, where an error is handled, its name holds it -/
noncomputable def JX (J : L2.St → Prop) : Option Nat → Addr → L2.St → Prop
  | none, _ => J
  | some n, a => fun σ => J σ ∧ ∀ v, σ[n]? = some (some v) → v = .ref a
theorem JX.j {J : L2.St → Prop} {o : Option Nat} {a : Addr} {σ : L2.St} (h : JX J o a σ) : J σ := by
  cases o with
  | none => exact h
  | some n => exact h.1
theorem jxx {J : L2.St → Prop} {n j : Nat} {a : Addr} (hJ : ∀ σ v, J σ → J (σ.set j v)) (h : j ≠ n) : ∀ σ v, JX J (some n) a σ → JX J (some n) a (σ.set j v) := fun σ v ⟨h1, h2⟩ => ⟨hJ σ v h1, fun u e => by
  rw [List.getElem?_set_ne h] at e
  exact h2 u e⟩
/-- the names of a def that got a lambda: the third holds it, from the sixth on stands what it captured -/
noncomputable def PinsF (gs : List Nat) (f : Addr) (ws : List V) (τ : L2.St) : Prop := τ[2]? = some (some (.ref f)) ∧ gs.map (fun j => τ[j]?) = ws.map (fun v => some (some v)) ∧ ∀ j ∈ gs, 6 ≤ j
theorem jfn {i : Nat} {gs : List Nat} {f : Addr} {ws : List V} (h : i ≠ 2 ∧ i < 6) : ∀ (σ : L2.St) (v : Option V), PinsF gs f ws σ → PinsF gs f ws (σ.set i v) := fun σ v ⟨a, b, c⟩ => by
  refine ⟨(List.getElem?_set_ne h.1).trans a, ?_, c⟩
  rw [← b]
  exact List.map_congr_left fun j hj => List.getElem?_set_ne (by have := c j hj; omega)
noncomputable def tGd (G : GC) (J : L2.St → Prop) (g : D → Env → Res Env) : TG := fun v σ H Q => ∃ H0 F0 fp F r d, MS G J H0 F0 fp F σ H r ∧ Rep G F v d ∧ ∃ r', g d r = .ok r' ∧ ∀ fp' σ', MS G J H0 F0 fp' F σ' H r' → Q σ' H
noncomputable def tGds (G : GC) (J : L2.St → Prop) (g : List D → Env → Res Env) : TGs := fun vs σ H Q => ∃ H0 F0 fp F r ds, MS G J H0 F0 fp F σ H r ∧ RepAll G F vs ds ∧ ∃ r', g ds r = .ok r' ∧ ∀ fp' σ', MS G J H0 F0 fp' F σ' H r' → Q σ' H
noncomputable abbrev RG (X : Cx) (J : L2.St → Prop) (tg : Expr) (g : D → Env → Res Env) : Prop := PG X tg (tGd (gOf X) J g)
noncomputable abbrev RGs (X : Cx) (J : L2.St → Prop) (tg : List Expr) (g : List D → Env → Res Env) : Prop := PGs X tg (tGds (gOf X) J g)
theorem PG.imp {e : Expr} {t t' : TG} (h : PG X e t) (i : ∀ v σ H Q, t' v σ H Q → t v σ H Q) : PG X e t' := ⟨fun pins s σ H v u Q I r hw => h.run pins s σ H v u Q I r (i v σ H Q hw)⟩
theorem PGs.imp {e : List Expr} {t t' : TGs} (h : PGs X e t) (i : ∀ v σ H Q, t' v σ H Q → t v σ H Q) : PGs X e t' := ⟨fun pins s σ H v u Q I r hw => h.run pins s σ H v u Q I r (i v σ H Q hw)⟩
theorem rg_name {J : L2.St → Prop} (i : Nat) {x : Str} {pos : Pos} (hN : X.N.Nodup) (hJ : ∀ σ v, J σ → J (σ.set i v) := by first | exact fun _ _ h => h | exact jset (by decide) | exact jfn (by decide) | exact jxx (fun _ _ h => h) (by decide) | exact jxx (jset (by decide)) (by decide)) (hi : X.N[i]? = some x := by rfl) (hx : Loc X.env.scope x := by first | exact Or.inl rfl | exact Or.inr rfl) (hf : X.fn x = true ∨ X.env.scope.names.lookup x = some .local := by first | exact .inl rfl | exact .inr rfl) :
    RG X J (.Name x pos) (fun d r => .ok (r.set i (.sh d))) :=
  PG.imp (pg_name hN hi hx hf) fun v σ H Q ⟨H0, F0, fp, F, r, d, m, rv, r', e, q⟩ => by
    cases e
    exact q fp _ (m.setS i rv hJ)
theorem rgs_nil {J : L2.St → Prop} : RGs X J [] (fun ds r => match ds with
    | [] => .ok r
    | _ => .bad) :=
  PGs.imp pgs_nil fun vs σ H Q ⟨H0, F0, fp, F, r, ds, m, rv, r', e, q⟩ => by
    cases rv with
    | nil => cases e; exact ⟨rfl, q fp σ m⟩
    | cons _ _ => cases e
theorem rgs_cons {J : L2.St → Prop} {e : Expr} {es : List Expr} {g : D → Env → Res Env} {gs : List D → Env → Res Env} (h1 : RG X J e g) (h2 : RGs X J es gs) (hs : (assignEach (e :: es) X.env).map (·.2) = assign e X.env :: (assignEach es X.env).map (·.2) := by rfl) :
    RGs X J (e :: es) (fun ds r => match ds with
    | d :: ds => g d r >>= fun r' => gs ds r'
    | [] => .bad) :=
  PGs.imp (pgs_cons h1 h2 hs) fun vs σ H Q ⟨H0, F0, fp, F, r, ds, m, rv, r', e, q⟩ => by
    cases rv with
    | nil => cases e
    | @cons v d vs ds rv rr =>
      have e' : (g d r >>= fun r' => gs ds r') = .ok r' := e
      cases e1 : g d r with
      | ok r1 =>
        rw [e1] at e'
        exact ⟨v, vs, rfl, H0, F0, fp, F, r, d, m, rv, r1, e1, fun fp1 σ1 m1 => ⟨H0, F0, fp1, F, r1, ds, m1, rr, r', e', q⟩⟩
      | er x => rw [e1] at e'; cases e'
      | bad => rw [e1] at e'; cases e'
theorem rg_tup {J : L2.St → Prop} {es : List Expr} {kk : Nat} {pos : Pos} {gs : List D → Env → Res Env} {n : Nat} (hc : X.calm = true) (h : RGs X J es gs) (hn : (assignEach es X.env).length = n := by rfl) (hst : (assignEach es X.env).findIdx? (·.1) = none := by rfl) :
    RG X J (.Tuple es kk pos) (fun d r => match d with
    | .tup ds => if ds.length = n then gs ds r else .bad
    | _ => .bad) :=
  PG.imp (pg_tup hc h hn hst) fun v σ H Q ⟨H0, F0, fp, F, r, d, m, rv, r', e, q⟩ => by
    cases rv with
    | @tup a vs ds sq ra =>
      have e' : (if ds.length = n then gs ds r else .bad) = .ok r' := e
      split at e'
      · rename_i hl
        exact ⟨a, vs, rfl, Same.sqT m.sub sq, by rw [ra.length]; exact hl, H0, F0, fp, F, r, ds, m, ra, r', e', q⟩
      · cases e'
    | _ => cases e
theorem t_asg {e : Expr} {te : TE} {f : Env → Res D} {g : D → Env → Res Env} {D : Ends} {σ : L2.St} {H : Hp}
    (t : tS (gOf X) W k (fun r => lift (f r) r fun d => into (g d r)) D σ H) : tAsg (tE (gOf X) W .S f) (tGd (gOf X) W.J g) D σ H := by
  obtain ⟨H0, F0, fp, F, r, m, o⟩ := t
  refine ⟨H0, F0, fp, F, r, m, o.lift m fun F' H' d gr o' v kv => ?_⟩
  cases e1 : g d r with
  | ok r1 =>
    rw [e1] at o'
    exact ⟨H0, F0, fp, F', r, d, m.grow gr, kv, r1, e1, fun fp' σ' m' => o' fp' F' σ' H' (Same.refl _) m'⟩
  | er x => rw [e1] at o'; exact o'.elim
  | bad => rw [e1] at o'; exact o'.elim
theorem rs_asg {tg e : Expr} {pos : Pos} {f : Env → Res D} {g : D → Env → Res Env} (he : RE X W .S e f) (hg : RG X W.J tg g) (hs : swapsWithSole [tg] e pos.line X.env = pure false := by rfl) (hw : swappedStores [tg] e X.env = pure none := by rfl)
    (h1 : (assignEach [tg] X.env).map (·.2) = [assign tg X.env] := by rfl) : RS X W k (.Assign [tg] e pos) (fun r => lift (f r) r fun d => into (g d r)) :=
  (ps_asg he hg hs hw h1).imp fun D σ H t => t_asg (e := e) (te := tE (gOf X) W .S f) t
theorem rs_set (i : Nat) {x : Str} {e : Expr} {pos pos' : Pos} {f : Env → Res D} (hN : X.N.Nodup) (he : RE X W .S e f) (hJ : ∀ σ v, W.J σ → W.J (σ.set i v) := by first | exact fun _ _ h => h | exact jset (by decide) | exact jfn (by decide) | exact jxx (fun _ _ h => h) (by decide) | exact jxx (jset (by decide)) (by decide)) (hi : X.N[i]? = some x := by rfl) (hx : Loc X.env.scope x := by first | exact Or.inl rfl | exact Or.inr rfl)
    (hs : swapsWith e (some (.Name x pos')) pos.line X.env = pure false := by rfl) (hf : X.fn x = true ∨ X.env.scope.names.lookup x = some .local := by first | exact .inl rfl | exact .inr rfl) :
    RS X W k (.Assign [.Name x pos'] e pos) (fun r => lift (f r) r fun d => .nx (r.set i (.sh d))) :=
  (ps_set hN hi hx he hs hf).imp fun D σ H ⟨H0, F0, fp, F, r, m, o⟩ => ⟨H0, F0, fp, F, r, m, o.lift m fun F' H' d gr o' v kv => o' fp F' _ H' (Same.refl _) ((m.grow gr).setS i kv hJ)⟩
theorem MS.setNew {G : GC} {J : L2.St → Prop} {H0 F0 F H F' H' : Hp} {fp : Nat → List Addr} {σ : L2.St} {r : Env} (m : MS G J H0 F0 fp F σ H r) (gr : Grow F H F' H') {v : V} {d : D} {s : Shape} (i : Nat) (kv : (Kd.O s).Rep G H F' H' v d) (hJ : ∀ σ v, J σ → J (σ.set i v)) :
    ∃ fp', MS G J H0 F0 fp' F' (σ.set i (some v)) H' (r.set i (.ow s d)) := by
  obtain ⟨A, ow, n⟩ := kv
  refine ⟨_, (m.grow gr).setO i ow (fun a ha => m.s0.free (n a ha)) (fun j t e ne h a ha hb => ?_) hJ⟩
  obtain ⟨⟨w, _, o2⟩, _⟩ := m.ow j t e h
  obtain ⟨_, u, z⟩ := o2.there a hb
  rw [n a ha] at z
  cases z
/-- name = a thing of one's own -/
theorem rs_setO (i : Nat) {s : Shape} {x : Str} {e : Expr} {pos pos' : Pos} {f : Env → Res D} (hN : X.N.Nodup) (he : RE X W (.O s) e f) (hJ : ∀ σ v, W.J σ → W.J (σ.set i v) := by first | exact fun _ _ h => h | exact jset (by decide) | exact jfn (by decide) | exact jxx (fun _ _ h => h) (by decide) | exact jxx (jset (by decide)) (by decide)) (hi : X.N[i]? = some x := by rfl) (hx : Loc X.env.scope x := by first | exact Or.inl rfl | exact Or.inr rfl)
    (hs : swapsWith e (some (.Name x pos')) pos.line X.env = pure false := by rfl) (hf : X.fn x = true ∨ X.env.scope.names.lookup x = some .local := by first | exact .inl rfl | exact .inr rfl) :
    RS X W k (.Assign [.Name x pos'] e pos) (fun r => lift (f r) r fun d => .nx (r.set i (.ow s d))) :=
  (ps_set hN hi hx he hs hf).imp fun D σ H ⟨H0, F0, fp, F, r, m, o⟩ => ⟨H0, F0, fp, F, r, m, o.lift m fun F' H' d gr o' v kv =>
    let ⟨fp', m'⟩ := m.setNew gr i kv hJ
    o' fp' F' _ H' (Same.refl _) m'⟩
end
/-- from the heap B on J walks the data ds, their parts in F -/
structure WalkD (G : GC) (F B : Hp) (J : It) (ds : List D) : Prop where
  goes : ∀ i H, i < ds.length → Same B H → J.go i H
  stops : ∀ H, Same B H → J.stop ds.length H
  yields : ∀ (i : Nat) F2 H2 x H3, i < ds.length → Same F F2 → Same F2 H2 → Same B H2 → J.yld i H2 x H3 → ∃ F3 d, Grow F2 H2 F3 H3 ∧ ds[i]? = some d ∧ Rep G F3 x d
noncomputable def tI (G : GC) (W : Wi) (b : Bool) (f : Env → Res (List D)) : TI := fun σ H R => ∃ H0 F0 fp F r, MS G W.J H0 F0 fp F σ H r ∧ Out G W σ F H (fun F' H' ds => ∀ J, WalkD G F' (if b = true then F' else nT H') J ds → R J H') (f r)
/-- what a for walks: b: it stands in the shared part -/
noncomputable abbrev RI (X : Cx) (W : Wi) (b : Bool) (tg iter : Expr) (f : Env → Res (List D)) : Prop := PI X tg iter (tI (gOf X) W b f)
noncomputable def forD (f : D → Env → Oc) : List D → Env → Oc
  | [], r => .nx r
  | d :: ds, r => match f d r with
    | .nx r' => forD f ds r'
    | .ct r' => forD f ds r'
    | .bk r' => .nx r'
    | o => o
@[simp] theorem forD_nil (f : D → Env → Oc) (r : Env) : forD f [] r = .nx r := rfl
theorem forD_cons (f : D → Env → Oc) (d : D) (ds : List D) (r : Env) : forD f (d :: ds) r = match f d r with
    | .nx r' => forD f ds r'
    | .ct r' => forD f ds r'
    | .bk r' => .nx r'
    | o => o := rfl
section
variable {X : Cx} {W : Wi} {k : Kd}
theorem rs_for {tg iter : Expr} {body : List Stmt} {pos : Pos} {f : Env → Res (List D)} {g : D → Env → Res Env} {gb : Env → Oc} (hp : PassesOwn (model X.prog X.w) X.A X.env X.xe) (hc : X.calm = true) (hi : RI X W true tg iter f) (hg : RG X W.J tg g) (hb : RSs X W k body gb)
    (hs : ∀ x, foldedSetIterable iter X.env x = pure x := by intro _; rfl) : RS X W k (.For tg iter body [] pos) (fun r => lift (f r) r fun ds => forD (fun d r => (into (g d r)).seq gb) ds r) :=
  (ps_for hp hc hi hg hb hs).imp fun D σ H ⟨H0, F0, fp, F, r, m, o⟩ => ⟨H0, F0, fp, F, r, m, o.lift m fun F1 H1 ds gr o1 J w => by
    rw [if_pos rfl] at w
    refine ⟨fun i n σ H => n = ds.length - i ∧ i ≤ ds.length ∧ ∃ fp F r, Same F1 F ∧ MS (gOf X) W.J H0 F0 fp F σ H r ∧ OutS (gOf X) W k H0 F0 F D (forD (fun d r => (into (g d r)).seq gb) (ds.drop i) r),
      ⟨ds.length, by simp, Nat.zero_le _, fp, F1, r, Same.refl _, m.grow gr, by simpa using o1⟩, ?_⟩
    rintro i n σ H ⟨rfl, hi, fp, F, r, sF, m, o⟩
    by_cases hlt : i < ds.length
    · refine .inr ⟨w.goes i H hlt (sF.trans m.sub), fun σ' H' => i + 1 ≤ ds.length ∧ ∃ fp F r, Same F1 F ∧ MS (gOf X) W.J H0 F0 fp F σ' H' r ∧ OutS (gOf X) W k H0 F0 F D (forD (fun d r => (into (g d r)).seq gb) (ds.drop (i + 1)) r),
        fun σ' H' ⟨h1, h2⟩ => ⟨ds.length - (i + 1), by omega, rfl, h1, h2⟩, fun x H' y => ?_⟩
      obtain ⟨F3, d, g3, ed, rx⟩ := w.yields i F H x H' hlt sF m.sub (sF.trans m.sub) y
      have e : ds.drop i = d :: ds.drop (i + 1) := by
        rw [List.drop_eq_getElem_cons hlt]
        rw [List.getElem?_eq_getElem hlt] at ed
        rw [Option.some.inj ed]
      rw [e, forD_cons] at o
      cases e1 : g d r with
      | ok r1 =>
        rw [e1] at o
        refine ⟨H0, F0, fp, F3, r, d, m.grow g3, rx, r1, e1, fun fp' σ' m' => ⟨H0, F0, fp', F3, r1, m', ?_⟩⟩
        have o' : OutS (gOf X) W k H0 F0 F3 D _ := OutS.same o g3.f
        simp only [into_ok, nx_seq] at o'
        cases e2 : gb r1 with
        | nx r2 => rw [e2] at o'; exact fun fp2 F2 σ2 H2 q m2 => ⟨hlt, fp2, F2, r2, (sF.trans g3.f).trans q, m2, o'.same q⟩
        | ct r2 => rw [e2] at o'; exact fun fp2 F2 σ2 H2 q m2 => ⟨hlt, fp2, F2, r2, (sF.trans g3.f).trans q, m2, o'.same q⟩
        | bk r2 => rw [e2] at o'; exact o'
        | rt d2 => rw [e2] at o'; exact o'
        | er x2 r2 => rw [e2] at o'; exact o'
        | bad => rw [e2] at o'; exact o'
      | er x2 => rw [e1] at o; exact o.elim
      | bad => rw [e1] at o; exact o.elim
    · have e : i = ds.length := by omega
      subst e
      rw [List.drop_length] at o
      exact .inl ⟨w.stops H (sF.trans m.sub), o fp F σ H (Same.refl _) m⟩⟩
/-- a while of at most so many turns -/
noncomputable def whileD (c : Env → Res Bool) (b : Env → Oc) : Nat → Env → Oc
  | 0, _ => .bad
  | n + 1, r => lift (c r) r fun t => if t = true then (match b r with
    | .nx r' => whileD c b n r'
    | .ct r' => whileD c b n r'
    | .bk r' => .nx r'
    | o => o) else .nx r
theorem rs_while {c : Expr} {body : List Stmt} {pos : Pos} {f : Env → Res Bool} {gb : Env → Oc} (hp : PassesOwn (model X.prog X.w) X.A X.env X.xe) (hc : RT X W c f) (hb : RSs X W k body gb) (N : Env → Nat) :
    RS X W k (.While c body [] pos) (fun r => whileD f gb (N r) r) :=
  (ps_while hp hc hb).imp fun D σ H ⟨H0, F0, fp, F, r, m, o⟩ => by
    refine ⟨fun n σ H => ∃ fp F' r, Same F F' ∧ MS (gOf X) W.J H0 F0 fp F' σ H r ∧ OutS (gOf X) W k H0 F0 F' D (whileD f gb n r), ⟨N r, fp, F, r, Same.refl _, m, o⟩, ?_⟩
    rintro n σ H ⟨fp, F1, r, s, m, o⟩
    cases n with
    | zero => exact o.elim
    | succ n =>
      refine ⟨H0, F0, fp, F1, r, m, OutS.lift m (show OutS (gOf X) W k H0 F0 F1 D (lift (f r) r _) from o) fun F2 H2 t g o2 => ?_⟩
      cases t with
      | false => exact o2 fp F2 σ H2 (Same.refl _) (m.grow g)
      | true =>
        rw [if_pos rfl]
        rw [if_pos rfl] at o2
        refine ⟨fun σ' H' => ∃ fp F' r, Same F F' ∧ MS (gOf X) W.J H0 F0 fp F' σ' H' r ∧ OutS (gOf X) W k H0 F0 F' D (whileD f gb n r), fun σ' H' q => ⟨n, Nat.lt_succ_self _, q⟩, H0, F0, fp, F2, r, m.grow g, ?_⟩
        cases e2 : gb r with
        | nx r2 => rw [e2] at o2; exact fun fp2 F3 σ2 H3 q m2 => ⟨fp2, F3, r2, (s.trans g.f).trans q, m2, o2.same q⟩
        | ct r2 => rw [e2] at o2; exact fun fp2 F3 σ2 H3 q m2 => ⟨fp2, F3, r2, (s.trans g.f).trans q, m2, o2.same q⟩
        | bk r2 => rw [e2] at o2; exact o2
        | rt d2 => rw [e2] at o2; exact o2
        | er x2 r2 => rw [e2] at o2; exact o2
        | bad => rw [e2] at o2; exact o2
end
end Mir
namespace Mir
open PySem PySem.Spec PyProof.Rows L2
noncomputable abbrev Takes (X : Cx) (W : WX) : Prop := L2N.Takes X W
noncomputable abbrev PMk (X : Cx) (e : Expr) (t : L2.St → Hp → XK → Prop) : Prop := L2N.PMk X e t
noncomputable abbrev Zn (cls : Value) (d : Option Addr) : Obj → Prop := L2N.Zn cls d
theorem takes0 {X : Cx} : Takes X (fun _ _ _ _ => False) := fun _ _ x => by
  obtain ⟨_, _, _, _, _, _, _, _, _, _, _, _, _, _, _, _, z⟩ := x
  exact z.elim
theorem passL {X : Cx} : Passes (L2N.CX X.prog X.w) X (fun _ _ _ => False) := fun _ _ _ _ _ _ _ h => by
  obtain ⟨_, _, _, _, _, _, _, _, _, _, _, _, z⟩ := h
  exact z.elim
theorem passAt {X : Cx} {W : WX} (tk : Takes X W) (σ : L2.St) : PassesAt (L2N.CX X.prog X.w) X σ (WE W σ) := L2N.passAt tk σ
theorem takes_of {X : Cx} {E : XK} (hs : X.stack = X.env :: X.outer) (hf : X.env.frame = some X.env.locals) (hex : X.ex = []) {E₁ : Value → Shared → Prop}
    (hx : X.xe = fun e s' => wpAny (model X.prog X.w) X.A (leaving X.env e) (fun _ s'' => L2N.CX X.prog X.w X.outer X.H_0 X.s_0 E e s'') E₁ s') : Takes X (fun cls d _ H => E cls d H) := L2N.takes_of hs hf hex hx
theorem ps_raise {X : Cx} {W : WX} {e : Expr} {t : L2.St → Hp → XK → Prop} {pos : Pos} (hc : X.calm = true) (tk : Takes X W) (he : PMk X e t) : PS X (.Raise (some e) none pos) (fun _ σ H => t σ H fun cls d H' => W cls d σ H') := L2N.ps_raise hc tk he
theorem Fun.okN {P : Program} {w : World} {K : PySem.W.Frag} {mg : Str → Option Value} {base : Heap} {x qual : Str} {st : Stmt} {f : Addr} {fd : FuncData} {N ps : List Str} {k : Nat} {sp : Sp} (F : Fun K x qual st f fd) (S : FnScope N ps (defScope st)) (len : ∀ vs H Q E, sp vs H Q E → vs.length = ps.length)
    (hbody : ∀ (cdv : Value) (A : Around) (outer : List PySem.Env) (s : Shared) (H : Hp) (vs : List V) (Q : VK) (E : XK), Room k (A.deeper (envOfC qual (defScope st) s.heap.objs.size f cdv)) → sp vs H Q E →
      ∃ t, PSs (cxOf (L2N.CX P w) P w K mg base N qual (defScope st) f cdv A outer s H E) (defBody st) t ∧ t { nx := fun _ H' => Q .non H', rt := Q } (L2.start N vs) H) : FnOk P w K mg base (L2N.CX P w) (k + 1) f fd ps sp := by
  obtain ⟨oc, od, kV, doc, pm, an, cdv, ct, osl, rfl, lk, hcd⟩ := F.ex
  exact fn_of lk hcd S len fun A outer s H vs Q E hr hsp => hbody cdv A outer s H vs Q E hr hsp
/-- C(e, ..), its context none -/
theorem pmk_oex {X : Cx} {e : Expr} {es : List Expr} {ta : TA} {p pos : Pos} {x : Str} {C fI : Addr} {k : Nat} {fd : FuncData} {ps : List Str} {sp : Sp} {ds : List Value} {dvs : List V} (T : OexC X.K C) (iC : PySem.W.findIn X.K (.ref C) "__init__" = some (some (.ref fI))) (tI : PySem.W.typeIn X.K (.ref fI) = some (.type "function"))
    (F1 : FnOk X.prog X.w X.K X.mg X.base (L2N.CX X.prog X.w) k fI fd ps sp) (hr : Room (k + 1) X.A) (hb : Binds X.K fd ps ds) (hd : Vals dvs ds) (hx : Passes (L2N.CX X.prog X.w) X (fun _ _ _ => False)) (hg : Gl X x) (hm : X.mg x = some (.ref C)) (ha : PA X (e :: es) ta)
    (hdb : (x == ("__debug__" : Str)) = false := by decide) (he : starEach (e :: es) X.env = (false, eval e X.env) :: starEach es X.env := by rfl) (hpl : (backTo pos (starEach es X.env)).any (·.1) = false := by rfl) :
    PMk X (.Call (.Name x p) (e :: es) [] pos) (tMkO C sp dvs ta) := by
  intro pins s σ H Q I h
  obtain ⟨nm, q, N, bs, bm, sn, sub, ab, col, dd, k0, k1, k2, k3, k5, hC, hbm⟩ := T.cls
  refine wpAny_Call_Name_kw (ld_glob I hg hm ?_ hdb)
  refine PySem.W.callWith_K (h₀ := X.base) I.ok.mod.kin T.kC (thn (ha.run pos pins s σ H _ I h) fun us s1 ⟨vs, H1, I1, r1, hz, q1⟩ => ⟨I1.kIn, ?_⟩) he hpl
  show wpAny _ _ (call (.ref C) us) _ _ _
  obtain ⟨hp, g, dr, tk, os⟩ := s1
  have hsz : hp.objs.size ≤ hp.objs.size + 1 := Nat.le_succ _
  have hn : H1 (hp.objs.size + 1) = none := I1.hok.fresh hsz
  have hq := q1 (hp.objs.size + 1) hn
  have kk : ∀ b o, hp.get? b = some o → ((hp.push (PySem.W.kdv_tup us)).push (PySem.HandSPX.excO C hp.objs.size)).get? b = some o := fun b o e => Heap.get?_push_of_some _ (Heap.get?_push_of_some _ e)
  have hget : ((hp.push (PySem.W.kdv_tup us)).push (PySem.HandSPX.excO C hp.objs.size)).get? (hp.objs.size + 1) = some (PySem.HandSPX.excO C hp.objs.size) := by heap_get
  have I2 : L2.Inv X pins σ (upd H1 (hp.objs.size + 1) (exo (hp.objs.size + 1) C none)) ⟨(hp.push (PySem.W.kdv_tup us)).push (PySem.HandSPX.excO C hp.objs.size), g, dr, tk, os⟩ :=
    I1.laid (t' := tk) (a := hp.objs.size + 1) (o := exo (hp.objs.size + 1) C none) (h' := (hp.push (PySem.W.kdv_tup us)).push (PySem.HandSPX.excO C hp.objs.size)) kk hsz (exo_ok hget)
  have r2 : Vals (V.ref (hp.objs.size + 1) :: (vs ++ dvs)) (Value.ref (hp.objs.size + 1) :: (us ++ ds)) := .cons rfl (r1.append hd)
  have hl : (Value.ref (hp.objs.size + 1) :: us ++ ds).length = ps.length := by
    have e := r2.length
    rw [F1.len _ _ _ _ hq] at e
    exact e.symm
  have hus : us.length ≤ sizeLine := by
    rw [← Paired.length r1, sizeLine_eq]
    omega
  refine wpAny_call (PySem.HandSPX.call_own F.excBase_ValueError (fun Y => PySem.HandSPX.refsVE_contains Y bm hbm) (I1.kIn _ _ hC) (PySem.W.looks_findIn I1.kIn iC) (fun self => PySem.W.bind_fn I1.kIn self tI) hus
    (codeAny_mono (F1.run _ X.stack _ _ ⟨Value.ref (hp.objs.size + 1) :: us, []⟩ (Value.ref (hp.objs.size + 1) :: (us ++ ds)) _ _ (fun _ _ _ => False) (hr.make C us []) (I2.env0.make C us []) (hb _ (Value.ref (hp.objs.size + 1) :: us) I2.kIn hl) r2 hq) fun r s' hq' => ?_))
  cases r with
  | error er => exact hx pins σ _ _ er s' I2 hq'
  | ok fl =>
    cases fl with
    | ret u =>
      obtain ⟨v, H2, os2, bare2, un2, hok2, rv, ev, d, fs, ea, ed, hd1, q2⟩ := hq'
      subst ev
      obtain ⟨h2, g2, d2, t2, os'⟩ := s'
      obtain ⟨t0, G, J, kG, ge, hoe, na⟩ := mk_end0 (d2 := d2) (t2 := t2) I1 hsz kk un2 hok2 os2 bare2 ea ed hd1
      refine ⟨rv, hp.objs.size + 1, _, _, ⟨G, g2, d2, t2, os'⟩, _, .ref C, some d, rfl, J, kG, ge, hoe, ⟨rfl, rfl, fun vs hv => ?_⟩, rfl, rfl, na, rfl, bare2, raises_own T.exC T.tyC, q2⟩
      cases hv
      rfl
    | next => exact False.elim hq'
    | brk => exact False.elim hq'
    | cont => exact False.elim hq'
variable [Tn]
/-- what a call is to leave -/
noncomputable def OutC (G : GC) (E : XK) {α : Type} (F H : Hp) (P : Hp → Hp → α → Prop) : Res α → Prop
  | .ok a => ∀ F' H', Grow F H F' H' → P F' H' a
  | .er e => ∀ cls dd F' H', Grow F H F' H' → ExcIs G F' cls dd e → E cls dd H'
  | .bad => False
/-- the promise of a def of worth g -/
noncomputable def spM (G : GC) (k : Kd) (g : List D → Res D) : Sp := fun vs H Q E => ∃ F ds, Same F H ∧ Tt F H ∧ RepAll G F vs ds ∧ OutC G E F H (fun F' H' d => ∀ v, k.Rep G H F' H' v d → Q v H') (g ds)
/-- the promise of an __init__: it makes of the arguments the object -/
noncomputable def spI (G : GC) (c : Nat) (g : List D → Res D) : Sp := fun vs H Q E => ∃ (x dx : Addr) (vs' : List V) (F H0 : Hp) (ds : List D), vs = .ref x :: vs' ∧ H x = some (.ins (G.ca c) dx []) ∧ Same H0 H ∧ H0 x = none ∧ Same F H0 ∧ Tt F H0 ∧ RepAll G F vs' ds ∧
  OutC G E F H0 (fun F' H' d => Rep G F' (.ref x) d → Q .non H') (g ds)
noncomputable def startD (n : Nat) (ds : List D) : Env := ds.map .sh ++ List.replicate (n - ds.length) .un
/-- a body's worth -/
noncomputable def runD (p n : Nat) (g : Env → Oc) (ds : List D) : Res D := if ds.length = p then (match g (startD n ds) with
  | .rt d => .ok d
  | .nx _ => .ok .non
  | .er e _ => .er e
  | _ => .bad) else .bad
noncomputable def runO (p n : Nat) (g : Env → Oc) (ds : List D) : Res D := if ds.length = p then (match g (startD n ds) with
  | .rt d => .ok d
  | .er e _ => .er e
  | _ => .bad) else .bad
noncomputable def startI (n c : Nat) (ds : List D) : Env := .ow .flat (.obj c []) :: startD (n - 1) ds
noncomputable def selfR (r : Env) : Res D := match r[0]? with
  | some (Slot.sh d) => .ok d
  | some (Slot.ow _ d) => .ok d
  | _ => .bad
/-- the worth of an __init__ -/
noncomputable def runI (p n c : Nat) (g : Env → Oc) (ds : List D) : Res D := if ds.length = p then (match g (startI n c ds) with
  | .nx r => selfR r
  | .er e _ => .er e
  | _ => .bad) else .bad
section
variable {G : GC}
theorem startD_un {n : Nat} {ds : List D} {i : Nat} {s : Slot} (h : (startD n ds)[i]? = some s) : (∃ d, ds[i]? = some d ∧ s = .sh d) ∨ s = .un := by
  unfold startD at h
  by_cases hi : i < ds.length
  · rw [List.getElem?_append_left (by simpa using hi), List.getElem?_map] at h
    cases e : ds[i]? with
    | none => rw [e] at h; cases h
    | some d => rw [e] at h; cases h; exact .inl ⟨d, rfl, rfl⟩
  · rw [List.getElem?_append_right (by simpa using hi), List.getElem?_replicate] at h
    split at h
    · cases h; exact .inr rfl
    · cases h
theorem start_at {N : List Str} {vs : List V} {i : Nat} {v : V} (h : vs[i]? = some v) : (L2.start N vs)[i]? = some (some v) := by
  have hi : i < vs.length := (List.getElem?_eq_some_iff.mp h).1
  unfold L2.start
  rw [List.getElem?_append_left (by simpa using hi), List.getElem?_map, h]
  rfl
theorem ms_start {F H : Hp} {N : List Str} {vs : List V} {ds : List D} (s : Same F H) (tt : Tt F H) (r : RepAll G F vs ds) : MS G (fun _ => True) H F (fun _ => []) F (L2.start N vs) H (startD N.length ds) where
  jo := trivial
  s0 := Stays.refl
  f0 := Same.refl _
  sub := s
  new := fun _ _ e => .inl e
  len := by
    unfold L2.start startD
    have := r.length
    simp only [List.length_append, List.length_map, List.length_replicate]
    omega
  sh := fun i d e => by
    rcases startD_un e with ⟨d', e1, e2⟩ | e2
    · cases e2
      obtain ⟨v, h1, h2⟩ := r.get e1
      exact ⟨v, start_at h1, h2⟩
    · cases e2
  ow := fun i s d e => by
    rcases startD_un e with ⟨_, _, z⟩ | z <;> cases z
  t0 := tt
  ap := fun i j s t d e _ h1 _ => by
    rcases startD_un h1 with ⟨_, _, z⟩ | z <;> cases z
end
section
variable {P : Program} {w : World} {K : PySem.W.Frag} {mg : Str → Option Value} {base : Heap}
noncomputable abbrev WD (E : XK) : Wi := ⟨fun cls d _ H => E cls d H, fun _ => True⟩
theorem spM_len {G : GC} {k : Kd} {n : Nat} {g : List D → Res D} (hg : ∀ ds, ds.length ≠ n → g ds = .bad) : ∀ vs H Q E, spM G k g vs H Q E → vs.length = n := fun vs H Q E ⟨F, ds, _, _, r, o⟩ => by
  by_cases h : ds.length = n
  · rw [r.length]; exact h
  · rw [hg ds h] at o; exact o.elim
/-- A DEF by its body (what it gives is shared) -/
theorem fn_ok {x qual : Str} {st : Stmt} {f : Addr} {fd : FuncData} {N ps : List Str} {k : Nat} {g : Env → Oc} (F : Fun K x qual st f fd) (S : FnScope N ps (defScope st))
    (hb : ∀ (cdv : Value) (A : Around) (outer : List PySem.Env) (s : Shared) (H : Hp) (E : XK), Room k (A.deeper (envOfC qual (defScope st) s.heap.objs.size f cdv)) →
      RSs (cxOf (L2N.CX P w) P w K mg base N qual (defScope st) f cdv A outer s H E) (WD E) .S (defBody st) g) : FnOk P w K mg base (L2N.CX P w) (k + 1) f fd ps (spM ⟨P, w, K, mg⟩ .S (runD ps.length N.length g)) := by
  refine Fun.okN F S (spM_len fun ds h => if_neg h) fun cdv A outer s H vs Q E hr ⟨F0, ds, s0, tt, r, o⟩ => ⟨_, hb cdv A outer s H E hr, H, F0, _, F0, _, ms_start s0 tt r, ?_⟩
  unfold runD at o
  split at o
  case isFalse => exact o.elim
  cases e : g (startD N.length ds) with
  | nx r' =>
    rw [e] at o
    exact fun fp F' σ' H' _ m => o F' H' m.g0 .non .non
  | rt d =>
    rw [e] at o
    exact fun F' H' v _ gr kr => o F' H' gr v kr
  | er x r' =>
    rw [e] at o
    exact fun fp F' σ' H' cls dd _ m ex => o cls dd F' H' m.g0 ex
  | bk r' => rw [e] at o; exact o.elim
  | ct r' => rw [e] at o; exact o.elim
  | bad => rw [e] at o; exact o.elim
/-- .. what it gives is the caller's own -/
theorem fn_okO {x qual : Str} {st : Stmt} {f : Addr} {fd : FuncData} {N ps : List Str} {k : Nat} {g : Env → Oc} {sp : Shape} (F : Fun K x qual st f fd) (S : FnScope N ps (defScope st))
    (hb : ∀ (cdv : Value) (A : Around) (outer : List PySem.Env) (s : Shared) (H : Hp) (E : XK), Room k (A.deeper (envOfC qual (defScope st) s.heap.objs.size f cdv)) →
      RSs (cxOf (L2N.CX P w) P w K mg base N qual (defScope st) f cdv A outer s H E) (WD E) (.O sp) (defBody st) g) : FnOk P w K mg base (L2N.CX P w) (k + 1) f fd ps (spM ⟨P, w, K, mg⟩ (.O sp) (runO ps.length N.length g)) := by
  refine Fun.okN F S (spM_len fun ds h => if_neg h) fun cdv A outer s H vs Q E hr ⟨F0, ds, s0, tt, r, o⟩ => ⟨_, hb cdv A outer s H E hr, H, F0, _, F0, _, ms_start s0 tt r, ?_⟩
  unfold runO at o
  split at o
  case isFalse => exact o.elim
  cases e : g (startD N.length ds) with
  | rt d =>
    rw [e] at o
    exact fun F' H' v _ gr kr => o F' H' gr v kr
  | er x r' =>
    rw [e] at o
    exact fun fp F' σ' H' cls dd _ m ex => o cls dd F' H' m.g0 ex
  | nx r' => rw [e] at o; exact o.elim
  | bk r' => rw [e] at o; exact o.elim
  | ct r' => rw [e] at o; exact o.elim
  | bad => rw [e] at o; exact o.elim
end
/-- a def of the module by its name -/
structure FnM (P : Program) (w : World) (K : PySem.W.Frag) (mg : Str → Option Value) (base : Heap) (j : Nat) (x : Str) (k : Kd) (g : List D → Res D) : Prop where
  ex : ∃ (f : Addr) (fd : FuncData) (ps : List Str), FnOk P w K mg base (L2N.CX P w) j f fd ps (spM ⟨P, w, K, mg⟩ k g) ∧ mg x = some (.ref f) ∧ PySem.W.keepIn K (.ref f) = true ∧ Binds K fd ps []
/-- a method m of the class c -/
structure MtM (P : Program) (w : World) (K : PySem.W.Frag) (mg : Str → Option Value) (base : Heap) (j : Nat) (m : Str) (c : Nat) (k : Kd) (g : List D → Res D) : Prop where
  ex : ∃ (f : Addr) (fd : FuncData) (ps : List Str), FnOk P w K mg base (L2N.CX P w) j f fd ps (spM ⟨P, w, K, mg⟩ k g) ∧ Meth K ((⟨P, w, K, mg⟩ : GC).ca c) m f ∧ Binds K fd ps []
  cl : Cls K ((⟨P, w, K, mg⟩ : GC).ca c)
  no : m ∉ cflds c
/-- the class c is made by its __init__ -/
structure MkM (P : Program) (w : World) (K : PySem.W.Frag) (mg : Str → Option Value) (base : Heap) (j : Nat) (c : Nat) (g : List D → Res D) : Prop where
  ex : ∃ (f : Addr) (fd : FuncData) (ps : List Str), FnOk P w K mg base (L2N.CX P w) j f fd ps (spI ⟨P, w, K, mg⟩ c g) ∧ Mk K ((⟨P, w, K, mg⟩ : GC).ca c) f ∧ mg (cname c) = some (.ref ((⟨P, w, K, mg⟩ : GC).ca c)) ∧ Binds K fd ps []
/-- an attribute f, by classes: its place -/
structure FldM (K : PySem.W.Frag) (ca : Nat → Addr) (f : Str) (p : Nat → Option Nat) : Prop where
  h : ∀ c i, p c = some i → (cflds c)[i]? = some f ∧ (cflds c).Nodup ∧ Cls K (ca c) ∧ NoAttr K (ca c) f
theorem lookup_zip {f : Str} : ∀ {l : List Str} {ws : List V} {i : Nat} {v : V}, l.Nodup → l[i]? = some f → ws[i]? = some v → (l.zip ws).lookup f = some v
  | [], _, _, _, _, h, _ => by simp at h
  | _ :: _, [], _, _, _, _, h => by simp at h
  | a :: l, w :: ws, 0, v, _, h, q => by
    simp at h q
    subst h q
    simp [List.lookup]
  | a :: l, w :: ws, i + 1, v, n, h, q => by
    have hm : f ∈ l := List.mem_of_getElem? (by simpa using h)
    have ne : f ≠ a := fun e => (List.nodup_cons.mp n).1 (e ▸ hm)
    have e : (f == a) = false := by simpa using ne
    rw [List.zip_cons_cons, List.lookup_cons, e]
    exact lookup_zip (i := i) (List.nodup_cons.mp n).2 (by simpa using h) (by simpa using q)
theorem lookup_zip_none {f : Str} : ∀ {l : List Str} {ws : List V}, f ∉ l → (l.zip ws).lookup f = none
  | [], _, _ => rfl
  | _ :: _, [], _ => rfl
  | a :: l, w :: ws, h => by
    have ne : f ≠ a := fun e => h (e ▸ List.mem_cons_self)
    have e : (f == a) = false := by simpa using ne
    rw [List.zip_cons_cons, List.lookup_cons, e]
    exact lookup_zip_none fun q => h (List.mem_cons_of_mem _ q)
/-- an attribute of an object -/
noncomputable def fldD (p : Nat → Option Nat) (d : D) : Res D := match d with
  | .obj c vs => match p c with
    | some i => match vs[i]? with
      | some d => .ok d
      | none => .bad
    | none => .bad
  | _ => .bad
/-- the method of an object -/
noncomputable def mthD (mt : Nat → Option (List D → Res D)) (d : D) : Res (List D → Res D) := match d with
  | .obj c vs => match mt c with
    | some g => .ok fun ds => g (.obj c vs :: ds)
    | none => .bad
  | _ => .bad
theorem fldD_er {p : Nat → Option Nat} {d e : D} (h : fldD p d = .er e) : False := by
  unfold fldD at h
  split at h
  · split at h
    · split at h <;> cases h
    · cases h
  · cases h
theorem fldD_ok {p : Nat → Option Nat} {d e : D} (h : fldD p d = .ok e) : ∃ c vs i, d = .obj c vs ∧ p c = some i ∧ vs[i]? = some e := by
  unfold fldD at h
  split at h
  · rename_i c vs
    split at h
    · rename_i i hp
      split at h
      · rename_i d' hv
        cases h
        exact ⟨c, vs, i, rfl, hp, hv⟩
      · cases h
    · cases h
  · cases h
theorem mthD_er {mt : Nat → Option (List D → Res D)} {d e : D} (h : mthD mt d = .er e) : False := by
  unfold mthD at h
  split at h
  · split at h <;> cases h
  · cases h
theorem mthD_ok {mt : Nat → Option (List D → Res D)} {d : D} {g' : List D → Res D} (h : mthD mt d = .ok g') : ∃ c vs g, d = .obj c vs ∧ mt c = some g ∧ g' = fun ds => g (.obj c vs :: ds) := by
  unfold mthD at h
  split at h
  · rename_i c vs
    split at h
    · rename_i g hm
      cases h
      exact ⟨c, vs, g, rfl, hm, rfl⟩
    · cases h
  · cases h
section
variable {X : Cx} {W : Wi} {k : Kd} {e o : Expr} {es : List Expr} {p pos apos : Pos}
theorem OutC.of {G : GC} {W : Wi} {σ : L2.St} {F H : Hp} {α : Type} {P : Hp → Hp → α → Prop} {x : Res α} (h : Out G W σ F H P x) : OutC G (WE W.w σ) F H P x := by
  cases x <;> exact h
theorem spM_of {G : GC} {W : Wi} {σ : L2.St} {F H1 H : Hp} {g : List D → Res D} {vs : List V} {ds : List D} {Q : VK} (s : Same F H) (tt : Tt F H) (hs : Fre H1 H) (r : RepAll G F vs ds)
    (o : Out G W σ F H (fun F' H' d => ∀ v, k.Rep G H1 F' H' v d → Q v H') (g ds)) : spM G k g vs H Q (WE W.w σ) :=
  ⟨F, ds, s, tt, r, OutC.of (o.imp fun F' H' d _ q v kv => q v (kv.later hs))⟩
/-- f(e, ..) -/
theorem re_call {j : Nat} {x : Str} {g : List D → Res D} {fa : Env → Res (List D)} (M : FnM X.prog X.w X.K X.mg X.base j x k g) (hr : Room j X.A) (tk : Takes X W.w) (ha : RA X W (e :: es) fa) (hg : Gl X x := by rfl)
    (hdb : (x == ("__debug__" : Str)) = false := by decide) (he : starEach (e :: es) X.env = (false, eval e X.env) :: starEach es X.env := by rfl) (hpl : (backTo pos (starEach es X.env)).any (·.1) = false := by rfl) :
    RE X W k (.Call (.Name x p) (e :: es) [] pos) (fun r => fa r >>= g) := by
  obtain ⟨f, fd, ps, F, hm, hk, hb⟩ := M.ex
  refine ⟨fun pins s σ H Q I ⟨H0, F0, fp, F1, r, m, o⟩ => ?_⟩
  refine wpAny_Call_Name_kw (ld_glob I hg hm ?_ hdb)
  have hw : tA (gOf X) W fa σ H fun vs H1 => spM (gOf X) k g vs H1 Q (WE W.w σ) := ⟨H0, F0, fp, F1, r, m, o.bind fun F2 H2 ds gr o2 vs rv => spM_of gr.sub (gr.h.tt m.tt) gr.h.fre rv o2⟩
  refine PySem.W.callWith_K (h₀ := X.base) I.ok.mod.kin hk (thn (ha.run pos pins s σ H _ I hw) fun us s1 ⟨vs, H1, I1, r1, q⟩ => ⟨I1.kIn, ?_⟩) he hpl
  exact run_fnS F hr hb (passAt tk σ) I1 r1 q
/-- o.f -/
theorem re_fld {f : Str} {pt : Nat → Option Nat} {fo : Env → Res D} (M : FldM X.K (gOf X).ca f pt) (ho : RE X W .S o fo) (hb : attributeBase o f X.env (eval o X.env) = eval o X.env := by rfl) : RE X W .S (.Attribute o f pos) (fun r => fo r >>= fldD pt) :=
  (pe_fld ho hb).imp fun σ H Q ⟨H0, F0, fp, F, r, m, oo⟩ => ⟨H0, F0, fp, F, r, m, oo.bind fun F' H' d gr o2 v kv => by
    cases ef : fldD pt d with
    | er x => exact (fldD_er ef).elim
    | bad => rw [ef] at o2; exact o2.elim
    | ok d' =>
      obtain ⟨c, vs, i, rfl, hp, hv⟩ := fldD_ok ef
      rw [ef] at o2
      have kv' : Rep (gOf X) F' v (.obj c vs) := kv
      cases kv' with
      | @obj a dx _ ws _ ha hz ra =>
        obtain ⟨h1, h2, h3, h4⟩ := M.h c i hp
        obtain ⟨w, hw, rw'⟩ := ra.get hv
        exact ⟨a, _, dx, _, w, rfl, gr.sub _ _ ha, h3, h4, lookup_zip h2 h1 hw, o2 F' H' (Grow.refl gr.sub) w rw'⟩⟩
/-- o.m(e, ..) -/
theorem re_meth {j : Nat} {mn : Str} {mt : Nat → Option (List D → Res D)} {fo : Env → Res D} {fa : Env → Res (List D)} {pl : Sem Bool} (M : ∀ c g, mt c = some g → MtM X.prog X.w X.K X.mg X.base j mn c k g) (hr : Room j X.A) (tk : Takes X W.w) (ho : RE X W .S o fo) (ha : RA X W (e :: es) fa)
    (he : starEach (e :: es) X.env = (false, eval e X.env) :: starEach es X.env := by rfl) (hpl : (backTo pos (starEach es X.env)).any (·.1) = false := by rfl)
    (ht : eval (.Call (.Attribute o mn apos) (e :: es) [] pos) X.env = (do
      let ov ← eval o X.env
      standAt apos.atName
      let (f, first) ← holding [ov] (getMethod ov mn pl)
      callWith pos f first (backTo pos (starEach (e :: es) X.env)) (backToKw pos (keywordEach [] X.env))) := by rfl) :
    RE X W k (.Call (.Attribute o mn apos) (e :: es) [] pos) (fun r => fo r >>= fun d => mthD mt d >>= fun g => fa r >>= g) := by
  refine ⟨fun pins s σ H Q I ⟨H0, F0, fp, F, r, m, oo⟩ => methcall_of ho I ⟨H0, F0, fp, F, r, m, oo.bind fun F1 H1 d gr o2 v kv => ?_⟩ ht⟩
  cases em : mthD mt d with
  | er x => exact (mthD_er em).elim
  | bad => rw [em] at o2; exact o2.elim
  | ok g' =>
    obtain ⟨c, vs, g, rfl, hc, rfl⟩ := mthD_ok em
    rw [em] at o2
    have kv' : Rep (gOf X) F1 v (.obj c vs) := kv
    obtain ⟨⟨f, fd, ps, FO, hmt, hb⟩, hcl, hno⟩ := M c g hc
    cases hkv : kv' with
    | @obj a dx _ ws _ hat hz ra =>
      refine ⟨a, _, dx, _, f, rfl, gr.sub _ _ hat, hcl, hmt, lookup_zip_none hno, fun s1 I1 => ?_⟩
      have hw : tA (gOf X) W fa σ H1 fun us H2 => spM (gOf X) k g (.ref a :: us) H2 Q (WE W.w σ) := ⟨H0, F0, fp, F1, r, m.grow gr, Out.bind o2 fun F2 H2 ds gr2 o3 us ru =>
        spM_of gr2.sub (gr2.h.tt (gr.h.tt m.tt)) (gr.h.trans gr2.h).fre (.cons (kv'.mono gr2.f) ru) o3⟩
      refine PySem.W.callWith_K (first := [.ref a]) (h₀ := X.base) I1.ok.mod.kin hmt.kp (thn (ha.run pos pins s1 σ H1 _ I1 hw) fun us s2 ⟨vs2, H2, I2, r2, q2⟩ => ⟨I2.kIn, ?_⟩) he hpl
      exact run_fnS (us := .ref a :: us) (vs := .ref a :: vs2) FO hr hb (passAt tk σ) I2 (.cons rfl r2) q2
theorem re_meth0 {j : Nat} {mn : Str} {mt : Nat → Option (List D → Res D)} {fo : Env → Res D} {pl : Sem Bool} (M : ∀ c g, mt c = some g → MtM X.prog X.w X.K X.mg X.base j mn c k g) (hr : Room j X.A) (tk : Takes X W.w) (ho : RE X W .S o fo)
    (ht : eval (.Call (.Attribute o mn apos) [] [] pos) X.env = (do
      let ov ← eval o X.env
      standAt apos.atName
      let (f, first) ← holding [ov] (getMethod ov mn pl)
      callWith pos f first (backTo pos (starEach [] X.env)) (backToKw pos (keywordEach [] X.env))) := by rfl) :
    RE X W k (.Call (.Attribute o mn apos) [] [] pos) (fun r => fo r >>= fun d => mthD mt d >>= fun g => g []) := by
  refine ⟨fun pins s σ H Q I ⟨H0, F0, fp, F, r, m, oo⟩ => methcall_of ho I ⟨H0, F0, fp, F, r, m, oo.bind fun F1 H1 d gr o2 v kv => ?_⟩ ht⟩
  cases em : mthD mt d with
  | er x => exact (mthD_er em).elim
  | bad => rw [em] at o2; exact o2.elim
  | ok g' =>
    obtain ⟨c, vs, g, rfl, hc, rfl⟩ := mthD_ok em
    rw [em] at o2
    have kv' : Rep (gOf X) F1 v (.obj c vs) := kv
    obtain ⟨⟨f, fd, ps, FO, hmt, hb⟩, hcl, hno⟩ := M c g hc
    cases hkv : kv' with
    | @obj a dx _ ws _ hat hz ra =>
      refine ⟨a, _, dx, _, f, rfl, gr.sub _ _ hat, hcl, hmt, lookup_zip_none hno, fun s1 I1 => ?_⟩
      exact PySem.W.callWith_K0 (first := [.ref a]) I1.kIn hmt.kp (run_fnS (us := [.ref a]) (vs := [.ref a]) FO hr hb (passAt tk σ) I1 (.cons rfl .nil) (spM_of gr.sub (gr.h.tt m.tt) gr.h.fre (.cons kv' .nil) o2))
end
end Mir
namespace Mir
open PySem PySem.Spec PyProof.Rows L2
variable [Tn]
section
variable {X : Cx} {CX : CXT} {k : Nat} {f C : Addr} {fd : FuncData} {ps : List Str} {sp : Sp} {E : L2.St → XK}
/-- a new instance and its __init__, what is raised wished for at the names' values -/
theorem run_makeS {pins : List (Addr × Obj)} {σ : L2.St} {H : Hp} {s : Shared} {Q : VK} {us : List Value} {vs : List V} (M : Mk X.K C f) (F : FnOk X.prog X.w X.K X.mg X.base CX k f fd ps sp) (hr : Room (k + 1) X.A) (hb : Binds X.K fd ps []) (hx : PassesAt CX X σ (E σ)) (I : Inv X pins σ H s) (r : Vals vs us)
    (h : ∀ x dx, H x = none → H dx = none → dx ≠ x → sp (.ref x :: vs) (upd (upd H dx (.own x)) x (.ins C dx [])) (fun v H2 => v = .non ∧ Q (.ref x) H2) (E σ)) : wpAny (model X.prog X.w) X.A (call (.ref C) us) (EP X pins σ Q) X.xe s := by
  have n1 : H (s.heap.objs.size + 1) = none := I.hok.fresh (Nat.le_succ _)
  have n0 : H s.heap.objs.size = none := I.hok.fresh (Nat.le_refl _)
  have due := h _ _ n1 n0 (Nat.ne_of_lt (Nat.lt_succ_self _))
  have J := Inv.made (C := C) I
  have rr : Vals (V.ref (s.heap.objs.size + 1) :: vs) (Value.ref (s.heap.objs.size + 1) :: us) := .cons rfl r
  have hl : (Value.ref (s.heap.objs.size + 1) :: us).length = ps.length := (F.len _ _ _ _ due) ▸ rr.length.symm
  have bt := hb _ (Value.ref (s.heap.objs.size + 1) :: us) J.kIn (by rw [List.append_nil]; exact hl)
  rw [List.append_nil] at bt
  refine wpAny_call (make_map (f := f) I.kIn M.makes M.init (beq_iff_eq.mp M.fn) (codeAny_mono (F.run _ X.stack _ _ _ _ _ _ (E σ) (hr.make C us []) (J.env0.make C us []) bt rr due) fun res s' q => ?_))
  match res, q with
  | .error e, q => exact hx pins _ _ e s' J q
  | .ok (.ret u), q =>
    obtain ⟨v, H', I', rv, ev, q'⟩ := J.after q
    subst ev
    exact ⟨rv, ⟨V.ref (s.heap.objs.size + 1), H', I', rfl, q'⟩⟩
  | .ok .next, q => exact q.elim
  | .ok .brk, q => exact q.elim
  | .ok .cont, q => exact q.elim
end
section
variable {X : Cx} {W : Wi} {e : Expr} {es : List Expr} {p pos : Pos}
theorem spI_of {G : GC} {W : Wi} {σ : L2.St} {F H1 H : Hp} {c : Nat} {g : List D → Res D} {vs : List V} {ds : List D} {Q : VK} (s : Same F H) (tt : Tt F H) (r : RepAll G F vs ds)
    (o : Out G W σ F H (fun F' H' d => ∀ v, Kd.S.Rep G H1 F' H' v d → Q v H') (g ds)) : ∀ x dx, H x = none → H dx = none → dx ≠ x →
      spI G c g (.ref x :: vs) (upd (upd H dx (.own x)) x (.ins (G.ca c) dx [])) (fun v H2 => v = .non ∧ Q (.ref x) H2) (WE W.w σ) := fun x dx nx ndx ne =>
  ⟨x, dx, vs, F, H, ds, rfl, upd_same, fun b o e => by rw [upd_ne (ne_of_none e nx), upd_ne (ne_of_none e ndx)]; exact e, nx, s, tt, r, OutC.of (o.imp fun F' H' d _ q rv => ⟨rfl, q (.ref x) rv⟩)⟩
/-- C(e, ..) -/
theorem re_make {j c : Nat} {x : Str} {g : List D → Res D} {fa : Env → Res (List D)} (M : MkM X.prog X.w X.K X.mg X.base j c g) (hr : Room (j + 1) X.A) (tk : Takes X W.w) (ha : RA X W (e :: es) fa) (hx : x = cname c := by rfl) (hg : Gl X x := by rfl)
    (hdb : (x == ("__debug__" : Str)) = false := by decide) (he : starEach (e :: es) X.env = (false, eval e X.env) :: starEach es X.env := by rfl) (hpl : (backTo pos (starEach es X.env)).any (·.1) = false := by rfl) :
    RE X W .S (.Call (.Name x p) (e :: es) [] pos) (fun r => fa r >>= g) := by
  subst hx
  obtain ⟨f, fd, ps, F, hmk, hm, hb⟩ := M.ex
  refine ⟨fun pins s σ H Q I ⟨H0, F0, fp, F1, r, m, o⟩ => ?_⟩
  refine wpAny_Call_Name_kw (ld_glob I hg hm ?_ hdb)
  have hw : tA (gOf X) W fa σ H fun vs H1 => ∀ x dx, H1 x = none → H1 dx = none → dx ≠ x → spI (gOf X) c g (.ref x :: vs) (upd (upd H1 dx (.own x)) x (.ins ((gOf X).ca c) dx [])) (fun v H2 => v = .non ∧ Q (.ref x) H2) (WE W.w σ) :=
    ⟨H0, F0, fp, F1, r, m, o.bind fun F2 H2 ds gr o2 vs rv => spI_of gr.sub (gr.h.tt m.tt) rv o2⟩
  refine PySem.W.callWith_K (h₀ := X.base) I.ok.mod.kin hmk.kp (thn (ha.run pos pins s σ H _ I hw) fun us s1 ⟨vs, H1, I1, r1, q⟩ => ⟨I1.kIn, ?_⟩) he hpl
  exact run_makeS hmk F hr hb (passAt tk σ) I1 r1 q
end
section
variable {G : GC}
theorem spI_len {c n : Nat} {g : List D → Res D} (hg : ∀ ds, ds.length ≠ n → g ds = .bad) : ∀ vs H Q E, spI G c g vs H Q E → vs.length = n + 1 := fun vs H Q E ⟨x, dx, vs', F, H0, ds, ev, _, _, _, _, _, r, o⟩ => by
  by_cases h : ds.length = n
  · rw [ev, List.length_cons, r.length, h]
  · rw [hg ds h] at o; exact o.elim
theorem ms_startI {c : Nat} {x dx : Addr} {F H0 H : Hp} {N : List Str} {vs : List V} {ds : List D} (hx : H x = some (.ins (G.ca c) dx [])) (s0 : Same H0 H) (nx : H0 x = none) (s : Same F H0) (tt : Tt F H0) (r : RepAll G F vs ds) (hN : 0 < N.length) :
    MS G (fun σ => σ[0]? = some (some (.ref x))) H0 F (fun _ => [x]) F (L2.start N (.ref x :: vs)) H (startI N.length c ds) where
  jo := start_at rfl
  s0 := .of s0 (Same.refl _) (fun _ _ e => .inl e)
  f0 := Same.refl _
  sub := s.trans s0
  new := fun _ _ e => .inl e
  len := by
    unfold L2.start startI startD
    have := r.length
    simp only [List.length_append, List.length_map, List.length_replicate, List.length_cons]
    omega
  sh := fun i d e => by
    cases i with
    | zero => cases e
    | succ i =>
      rcases startD_un (show (startD (N.length - 1) ds)[i]? = some (.sh d) from e) with ⟨d', e1, e2⟩ | e2
      · cases e2
        obtain ⟨v, h1, h2⟩ := r.get e1
        exact ⟨v, start_at (by simpa using h1), h2⟩
      · cases e2
  ow := fun i t d e => by
    cases i with
    | zero =>
      cases e
      refine ⟨⟨.ref x, start_at rfl, ?_⟩, fun a ha => by rw [List.mem_singleton.mp ha]; exact nx⟩
      refine Own.obj (ws := []) (dx := dx) rfl (by rw [List.zip_nil_right]; exact hx) (s.free nx) (Nat.zero_le _) .nil (by simp)
    | succ i =>
      rcases startD_un (show (startD (N.length - 1) ds)[i]? = some (.ow t d) from e) with ⟨_, _, z⟩ | z <;> cases z
  ap := fun i j t u d e ne h1 h2 => by
    have z : ∀ {i : Nat} {t : Shape} {d : D}, (startI N.length c ds)[i]? = some (.ow t d) → i = 0 := fun {i t d} h => by
      cases i with
      | zero => rfl
      | succ i =>
        rcases startD_un (show (startD (N.length - 1) ds)[i]? = some (.ow t d) from h) with ⟨_, _, z⟩ | z <;> cases z
    exact absurd ((z h1).trans (z h2).symm) ne
  t0 := tt
end
section
variable {P : Program} {w : World} {K : PySem.W.Frag} {mg : Str → Option Value} {base : Heap}
noncomputable abbrev WI (x : Addr) (E : XK) : Wi := ⟨fun cls d _ H => E cls d H, fun σ => σ[0]? = some (some (.ref x))⟩
theorem fn_okI {qual : Str} {st : Stmt} {f : Addr} {fd : FuncData} {N ps : List Str} {k c : Nat} {g : Env → Oc} (F : Fun K "__init__" qual st f fd) (S : FnScope N ps (defScope st)) (hps : 0 < ps.length)
    (hb : ∀ (cdv : Value) (A : Around) (outer : List PySem.Env) (s : Shared) (H : Hp) (E : XK) (x : Addr), Room k (A.deeper (envOfC qual (defScope st) s.heap.objs.size f cdv)) →
      RSs (cxOf (L2N.CX P w) P w K mg base N qual (defScope st) f cdv A outer s H E) (WI x E) .S (defBody st) g) : FnOk P w K mg base (L2N.CX P w) (k + 1) f fd ps (spI ⟨P, w, K, mg⟩ c (runI (ps.length - 1) N.length c g)) := by
  have hNl : ps.length ≤ N.length := by have := congrArg List.length S.pre; rw [List.length_take] at this; omega
  refine Fun.okN F S (fun vs H Q E h => (spI_len (n := ps.length - 1) (fun ds h => if_neg h) vs H Q E h).trans (by omega)) fun cdv A outer s H vs Q E hr ⟨x, dx, vs', F1, H0, ds, ev, hx, s0, nx, sF, tt0, r, o⟩ => ?_
  subst ev
  refine ⟨_, hb cdv A outer s H E x hr, H0, F1, _, F1, _, ms_startI hx s0 nx sF tt0 r (by omega), ?_⟩
  unfold runI at o
  split at o
  case isFalse => exact o.elim
  cases e : g (startI N.length c ds) with
  | rt d => rw [e] at o; exact o.elim
  | er y r' =>
    rw [e] at o
    exact fun fp F' σ' H' cls dd _ m ex => o cls dd F' H' m.g0 ex
  | nx r' =>
    rw [e] at o
    intro fp F' σ' H' _ m
    have o' : OutC _ E F1 H0 _ (selfR r') := o
    have j0 : σ'[0]? = some (some (.ref x)) := m.jo
    cases e2 : selfR r' with
    | er y => unfold selfR at e2; split at e2 <;> cases e2
    | bad => rw [e2] at o'; exact o'.elim
    | ok d =>
      rw [e2] at o'
      obtain ⟨F2, _, m2⟩ := m.freeze 0
      have hs : (freeze 0 r')[0]? = some (.sh d) := by
        unfold selfR at e2
        split at e2
        · rename_i d' hd
          cases e2
          unfold freeze
          rw [hd]
          exact hd
        · rename_i t d' hd
          cases e2
          unfold freeze
          rw [hd]
          exact List.getElem?_set_self (List.getElem?_eq_some_iff.mp hd).1
        · cases e2
      obtain ⟨v, hv, rv⟩ := m2.sh 0 d hs
      rw [j0] at hv
      cases hv
      exact o' F2 H' m2.g0 rv
  | bk r' => rw [e] at o; exact o.elim
  | ct r' => rw [e] at o; exact o.elim
  | bad => rw [e] at o; exact o.elim
end
section
variable {G : GC} {F H F' H' : Hp}
theorem OwnAll.snoc {f f' : Nat → Shape} {s : Shape} {v : V} {d : D} {B : List Addr} (q : Own G F H s v d B) : ∀ {n : Nat} {vs : List V} {ds : List D} {A : List Addr}, OwnAll G F H f n vs ds A → (∀ j, n ≤ j → j < n + vs.length → f' j = f j) → f' (n + vs.length) = s → (∀ a ∈ A, a ∉ B) →
    OwnAll G F H f' n (vs ++ [v]) (ds ++ [d]) (A ++ B)
  | n, [], _, _, .nil, _, h2, _ => by
    have z : OwnAll G F H f' n [v] [d] (B ++ []) := .cons (by rw [show f' n = s from h2]; exact q) .nil (fun _ _ h => nomatch h)
    rw [List.append_nil] at z
    exact z
  | n, v' :: vs, d' :: ds, _, .cons (A := A1) (B := A2) r t x, h1, h2, h3 => by
    rw [List.append_assoc]
    refine .cons (by rw [h1 n (Nat.le_refl _) (by simp)]; exact r) (OwnAll.snoc q t (fun j a b => h1 j (by omega) (by simp only [List.length_cons]; omega)) (by rw [← h2]; congr 1; simp only [List.length_cons]; omega) fun a ha => h3 a (List.mem_append_right _ ha)) fun a ha hb => ?_
    rcases List.mem_append.mp hb with z | z
    · exact x a ha z
    · exact h3 a (List.mem_append_left _ ha) z
theorem OwnAll.length {f : Nat → Shape} : ∀ {n : Nat} {vs : List V} {ds : List D} {A : List Addr}, OwnAll G F H f n vs ds A → vs.length = ds.length
  | _, _, _, _, .nil => rfl
  | _, _, _, _, .cons _ t _ => congrArg (· + 1) (OwnAll.length t)
theorem Keep.upd {A : List Addr} {a : Addr} {o : HO} (h : a ∉ A) : Keep A F H F (upd H a o) := ⟨fun b hb u e => by rw [upd_ne (fun z => h (by rw [← z]; exact hb))]; exact e, Same.refl _, fun _ _ z => z⟩
theorem putF_zip {f : Str} {y : V} : ∀ {l : List Str} {ws : List V}, l.Nodup → l[ws.length]? = some f → putF f y (l.zip ws) = l.zip (ws ++ [y])
  | [], ws, _, h => by simp at h
  | a :: l, [], _, h => by
    simp at h
    subst h
    show [(a, y)] = _
    rw [List.nil_append, List.zip_cons_cons, List.zip_nil_right]
  | a :: l, w :: ws, n, h => by
    have h' : l[ws.length]? = some f := by simpa using h
    have hm : f ∈ l := List.mem_of_getElem? h'
    have ne : ¬ a = f := fun e => (List.nodup_cons.mp n).1 (e ▸ hm)
    rw [List.cons_append, List.zip_cons_cons, List.zip_cons_cons, ← putF_zip (List.nodup_cons.mp n).2 h']
    show (if a = f then _ else _) = _
    rw [if_neg ne]
/-- an owned thing is written: the state behind -/
theorem MS.write {J : L2.St → Prop} {H0 F0 : Hp} {fp : Nat → List Addr} {σ : L2.St} {r : Env} (m : MS G J H0 F0 fp F σ H r) {i : Nat} {s s' : Shape} {d d' : D} {v : V} {a : Addr} {o : HO} {A : List Addr} (hi : r[i]? = some (.ow s d)) (hv : σ[i]? = some (some v)) (ha : a ∈ fp i)
    (q : Own G F (upd H a o) s' v d' A) (hA : ∀ b ∈ A, b ∈ fp i ∨ (H b = none ∨ (H0 b = none ∧ ∀ j, j ≠ i → ∀ t e, r[j]? = some (.ow t e) → b ∉ fp j))) : ∃ fp', MS G J H0 F0 fp' F σ (upd H a o) (r.set i (.ow s' d')) := by
  have hil : i < r.length := (List.getElem?_eq_some_iff.mp hi).1
  obtain ⟨⟨v0, hv0, o0⟩, hn⟩ := m.ow i s d hi
  have h0 : H0 a = none := hn a ha
  have f0 : F a = none := (o0.there a (by assumption)).1
  have notA : ∀ j t e, j ≠ i → r[j]? = some (.ow t e) → a ∉ fp j := fun j t e ne h z => m.ap i j s t d e (Ne.symm ne) hi h a ha z
  refine ⟨fun j => if j = i then A else fp j, m.jo, m.s0.upd h0, m.f0, fun b u e => ?_, m.new, by simpa using m.len, fun j e h => ?_, fun j t e h => ?_, fun j k t u e1 e2 ne h1 h2 b => ?_, m.t0⟩
  · rw [upd_ne (ne_of_none e f0)]; exact m.sub b u e
  · rcases get_set_slot h with ⟨_, x, _⟩ | ⟨ne, h⟩
    · cases x
    · exact m.sh j e h
  · rcases get_set_slot h with ⟨rfl, x, hl⟩ | ⟨ne, h⟩
    · cases x
      rw [if_pos rfl]
      refine ⟨⟨v, hv, q⟩, fun b hb => ?_⟩
      rcases hA b hb with z | z | z
      · exact hn b z
      · exact m.s0.free z
      · exact z.1
    · rw [if_neg (Ne.symm ne)]
      obtain ⟨⟨u, q1, q2⟩, q3⟩ := m.ow j t e h
      exact ⟨⟨u, q1, q2.keep (Keep.upd (notA j t e (Ne.symm ne) h))⟩, q3⟩
  · have other : ∀ j t e, j ≠ i → r[j]? = some (.ow t e) → ∀ b ∈ A, b ∉ fp j := fun j t e ne h b hb z => by
      rcases hA b hb with y | y | y
      · exact m.ap i j s t d e (Ne.symm ne) hi h b y z
      · obtain ⟨⟨_, _, o3⟩, _⟩ := m.ow j t e h
        obtain ⟨_, w, e3⟩ := o3.there b z
        rw [y] at e3
        cases e3
      · exact y.2 j ne t e h z
    rcases get_set_slot h1 with ⟨rfl, x, _⟩ | ⟨n1, h1⟩
    · rcases get_set_slot h2 with ⟨z, _, _⟩ | ⟨n2, h2⟩
      · exact absurd z ne
      · rw [if_pos rfl, if_neg (Ne.symm n2)]
        exact other k u e2 (Ne.symm n2) h2 b
    · rcases get_set_slot h2 with ⟨rfl, x, _⟩ | ⟨n2, h2⟩
      · rw [if_pos rfl, if_neg (Ne.symm n1)]
        exact fun hb hz => other j t e1 (Ne.symm n1) h1 b hz hb
      · rw [if_neg (Ne.symm n1), if_neg (Ne.symm n2)]
        exact m.ap j k t u e1 e2 ne h1 h2 b
end
/-- a class that may be made and read -/
structure ClM (K : PySem.W.Frag) (ca : Nat → Addr) (f : Str) (c : Nat) : Prop where
  cl : Cls K (ca c)
  no : NoAttr K (ca c) f
  nd : (cflds c).Nodup
/-- the n-th part is of the shape t -/
noncomputable def Shape.setKid (s : Shape) (n : Nat) (t : Shape) : Shape := match t with
  | .sh => s
  | t => .parts ((List.range n).map s.kid ++ [t])
/-- the n-th part is none of one's own as yet -/
noncomputable def Shape.fits (s : Shape) (n : Nat) : Bool := match s with
  | .parts l => decide (l.length ≤ n)
  | .opts _ => false
  | _ => true
theorem Shape.kid_fits {s : Shape} {n : Nat} (h : s.fits n = true) : s.kid n = .sh := by
  cases s with
  | parts l =>
    have h' : l.length ≤ n := of_decide_eq_true h
    show l.getD n .sh = .sh
    rw [List.getD_eq_getElem?_getD, List.getElem?_eq_none h']
    rfl
  | opts l => cases h
  | _ => rfl
theorem Shape.setKid_own {s : Shape} {n : Nat} {t : Shape} (h : s.own = true) : (s.setKid n t).own = true := by
  cases t with
  | sh => exact h
  | _ => rfl
theorem Shape.setKid_at {s : Shape} {n : Nat} {t : Shape} (h : s.fits n = true) : (s.setKid n t).kid n = t := by
  have e : ∀ t, Shape.kid (.parts ((List.range n).map s.kid ++ [t])) n = t := fun t => by
    show (_ ++ [t]).getD n .sh = t
    rw [List.getD_eq_getElem?_getD, List.getElem?_append_right (by simp)]
    simp
  cases t with
  | sh => exact Shape.kid_fits h
  | flat => exact e _
  | parts l => exact e _
  | opts l => exact e _
theorem Shape.setKid_lt {s : Shape} {n j : Nat} {t : Shape} (h : j < n) : (s.setKid n t).kid j = s.kid j := by
  have e : ∀ t, Shape.kid (.parts ((List.range n).map s.kid ++ [t])) j = s.kid j := fun t => by
    show (_ ++ [t]).getD j .sh = _
    rw [List.getD_eq_getElem?_getD, List.getElem?_append_left (by simpa using h), List.getElem?_map, List.getElem?_range h]
    rfl
  cases t with
  | sh => rfl
  | flat => exact e _
  | parts l => exact e _
  | opts l => exact e _
section
variable {X : Cx} {W : Wi} {k : Kd} {e : Expr} {f : Str} {pos p' ps : Pos} {fe : Env → Res D}
theorem re_shO {e : Expr} {f : Env → Res D} (h : RE X W .S e f) : RE X W (.O .sh) e f :=
  h.imp fun σ H Q ⟨H0, F0, fp, F, r, m, o⟩ => ⟨H0, F0, fp, F, r, m, o.imp fun F' H' d _ p v kv => p v ⟨[], .sh kv, fun _ z => nomatch z⟩⟩
/-- the next attribute of the object in slot i -/
noncomputable def setF (i c : Nat) (f : Str) (s : Shape) (d : D) (r : Env) : Oc := match r[i]? with
  | some (.ow g (.obj c' vs)) => if c' = c ∧ (cflds c)[vs.length]? = some f ∧ g.own = true ∧ g.fits vs.length = true then .nx (r.set i (.ow (g.setKid vs.length s) (.obj c (vs ++ [d])))) else .bad
  | _ => .bad
theorem rs_fldO (i c : Nat) {s : Shape} {x : Str} (M : ClM X.K (gOf X).ca f c) (he : RE X W (.O s) e fe) (hN : X.N[i]? = some x := by rfl) (hv : Vis X.env.scope x := by first | exact Or.inl rfl | exact Or.inr (Or.inl rfl)) (hd : (x == ("__debug__" : Str)) = false := by decide)
    (hcd : (x == ("__classdict__" : Str)) = false := by decide) (hs : swapsWith e (some (.Attribute (.Name x ps) f p')) pos.line X.env = pure false := by rfl) :
    RS X W k (.Assign [.Attribute (.Name x ps) f p'] e pos) (fun r => lift (fe r) r fun d => setF i c f s d r) :=
  (ps_fld (pe_var hN hv hd hcd) he hs).imp fun D σ H ⟨H0, F0, fp, F, r, m, o⟩ => ⟨H0, F0, fp, F, r, m, o.lift m fun F' H' d gr o' v ⟨B, ob, nb⟩ => by
    unfold setF at o'
    split at o'
    · rename_i g c' vs hi
      split at o'
      · rename_i hc
        obtain ⟨rfl, hf, go, gf⟩ := hc
        have m' := m.grow gr
        obtain ⟨⟨w, hw, ow⟩, hn⟩ := m'.ow i _ _ hi
        have hff : fp i = fp i := rfl
        generalize hA : fp i = A at ow hn
        cases ow with
        | sh _ => cases go
        | @obj _ a dx _ ws _ A' _ ha fa hz oa na =>
          have hl := oa.length
          refine ⟨.ref a, hw, a, (gOf X).ca c', dx, _, rfl, ha, M.cl, M.no, ?_, ?_⟩
          · rw [List.length_zip]
            have : (cflds c').length ≤ 8 := by
              unfold cflds
              split <;> decide
            omega
          · rw [putF_zip M.nd (by rw [hl]; exact hf)]
            have ain : a ∈ fp i := by rw [hA]; exact List.mem_cons_self
            have aB : a ∉ B := fun z => by
              obtain ⟨⟨_, q1, q2⟩, _⟩ := m.ow i _ _ hi
              obtain ⟨_, u, e⟩ := q2.there a ain
              rw [nb a z] at e
              cases e
            have AB : ∀ b ∈ A', b ∉ B := fun b hb z => by
              obtain ⟨⟨_, q1, q2⟩, _⟩ := m.ow i _ _ hi
              obtain ⟨_, u, e⟩ := q2.there b (by rw [hA]; exact List.mem_cons_of_mem _ hb)
              rw [nb b z] at e
              cases e
            have q : Own (gOf X) F' (upd H' a (.ins ((gOf X).ca c') dx ((cflds c').zip (ws ++ [v])))) (g.setKid vs.length s) (.ref a) (.obj c' (vs ++ [d])) (a :: (A' ++ B)) := by
              refine .obj (Shape.setKid_own go) upd_same fa ?_ (OwnAll.snoc (f := g.kid) (ob.keep (Keep.upd aB)) (oa.keep (Keep.upd na)) (fun j _ hj => ?_) ?_ AB) fun z => (List.mem_append.mp z).elim na aB
              · rw [List.length_append]
                have := (List.getElem?_eq_some_iff.mp hf).1
                simp only [List.length_cons, List.length_nil]
                omega
              · exact Shape.setKid_lt (by omega)
              · rw [Nat.zero_add, hl]
                exact Shape.setKid_at gf
            obtain ⟨fp', m2⟩ := m'.write hi hw ain q fun b hb => by
              rcases List.mem_cons.mp hb with z | z
              · exact .inl (by rw [hA, z]; exact List.mem_cons_self)
              · rcases List.mem_append.mp z with z | z
                · exact .inl (by rw [hA]; exact List.mem_cons_of_mem _ z)
                · refine .inr (.inr ⟨m.s0.free (nb b z), fun j ne t e h y => ?_⟩)
                  obtain ⟨⟨_, _, q2⟩, _⟩ := m.ow j t e h
                  obtain ⟨_, u, e⟩ := q2.there b y
                  rw [nb b z] at e
                  cases e
            exact o' fp' F' σ _ (Same.refl _) m2
      · exact o'.elim
    · exact o'.elim⟩
/-- self.f = e, shared -/
theorem rs_fldS (i c : Nat) {x : Str} (M : ClM X.K (gOf X).ca f c) (he : RE X W .S e fe) (hN : X.N[i]? = some x := by rfl) (hv : Vis X.env.scope x := by first | exact Or.inl rfl | exact Or.inr (Or.inl rfl)) (hd : (x == ("__debug__" : Str)) = false := by decide)
    (hcd : (x == ("__classdict__" : Str)) = false := by decide) (hs : swapsWith e (some (.Attribute (.Name x ps) f p')) pos.line X.env = pure false := by rfl) :
    RS X W k (.Assign [.Attribute (.Name x ps) f p'] e pos) (fun r => lift (fe r) r fun d => setF i c f .sh d r) :=
  rs_fldO i c M (re_shO he) hN hv hd hcd hs
end
end Mir
namespace Mir
open PySem PySem.Spec PyProof.Rows L2
variable [Tn]
noncomputable abbrev veT : List Value := [.type "ValueError", .type "Exception", .type "BaseException", .type "object"]
/-- an own error class without own __init__ -/
structure ExM0 (K : PySem.W.Frag) (mg : Str → Option Value) (C : Addr) (c : Nat) : Prop where
  gC : mg (cname c) = some (.ref C)
  ex : PySem.W.excIn K C veT "ValueError.__new__" = true
  kC : PySem.W.keepIn K (.ref C) = true
  sb : PySem.W.subIn K (.ref C) (.type "BaseException") = some true
  ty : PySem.W.typeIn K (.ref C) = some (.type "type")
  no : cflds c = []
/-- the promise of an error's __init__: the attributes fl, the last one stored first in it -/
noncomputable def spE (C : Addr) (fl : List Str) : Sp := fun vs H Q _ => ∃ (a : Addr) (ys : List V), vs = .ref a :: ys ∧ ys.length = fl.length ∧ H a = some (exo a C none) ∧ ∀ dx, H dx = none → dx ≠ a → Q .non (upd (upd H dx (exd dx (fl.zip ys.reverse))) a (exo a C (some dx)))
/-- an own error class with an __init__ that stores what it is given -/
structure ExMA (P : Program) (w : World) (K : PySem.W.Frag) (mg : Str → Option Value) (base : Heap) (C : Addr) (c : Nat) : Prop where
  gC : mg (cname c) = some (.ref C)
  T : OexC K C
  ex : ∃ (f : Addr) (fd : FuncData) (ps : List Str), FnOk P w K mg base (L2N.CX P w) 1 f fd ps (spE C (cflds c)) ∧ PySem.W.findIn K (.ref C) "__init__" = some (some (.ref f)) ∧ PySem.W.typeIn K (.ref f) = some (.type "function") ∧ Binds K fd ps []
theorem ca_of {G : GC} {c : Nat} {C : Addr} (h : G.mg (cname c) = some (.ref C)) : G.ca c = C := by
  unfold GC.ca
  rw [h]
section
variable {X : Cx} {W : Wi} {k : Kd} {C : Addr} {c : Nat} {x : Str} {p pos pos2 : Pos} {e : Expr} {es : List Expr}
/-- X() -/
theorem pmk_own0 (M : ExM0 X.K X.mg C c) (hx : x = cname c) (hg : Gl X x) (hdb : (x == ("__debug__" : Str)) = false) : PMk X (.Call (.Name x p) [] [] pos) (fun _ H Q => Q (.ref C) none H) := by
  subst hx
  intro pins s σ H Q I h
  refine wpAny_Call_Name_kw (ld_glob I hg M.gC ?_ hdb)
  refine PySem.W.callWith_K0 I.kIn M.kC ?_
  obtain ⟨bm, N, nm, qn, bs, hdct, sn, sub, ab, col, dd, k0, k1, k2, k3, k5, mN, hC, hN, hni, T⟩ := exc_obj I.kIn M.ex
  refine wpAny_call_exc_subT PySem.F.excBase_ValueError T hC hN hni (fun h' e hm => ?_) (Nat.zero_le _)
  exact L2N.mk_of I hm (raises_own M.sb M.ty) h (I.hok.gone hm.new)
theorem rs_raise0 (M : ExM0 X.K X.mg C c) (hc : X.calm = true) (tk : Takes X W.w) (hx : x = cname c := by rfl) (hg : Gl X x := by rfl) (hdb : (x == ("__debug__" : Str)) = false := by decide) :
    RS X W k (.Raise (some (.Call (.Name x p) [] [] pos)) none pos2) (fun r => .er (.exc c []) r) :=
  (ps_raise hc tk (pmk_own0 M hx hg hdb)).imp fun D σ H ⟨H0, F0, fp, F, r, m, o⟩ =>
    o fp F σ H _ _ (Same.refl _) m ⟨c, [], [], rfl, by rw [ca_of (G := gOf X) M.gC], .nil, .inl ⟨rfl, M.no, rfl⟩⟩
/-- X(e, ..) -/
theorem rs_raise (M : ExMA X.prog X.w X.K X.mg X.base C c) (hc : X.calm = true) (tk : Takes X W.w) (hr : Room 2 X.A) {fa : Env → Res (List D)} (ha : RA X W (e :: es) fa) (hl : (e :: es).length ≤ 1000 := by decide) (hx : x = cname c := by rfl) (hg : Gl X x := by rfl) (hdb : (x == ("__debug__" : Str)) = false := by decide)
    (he : starEach (e :: es) X.env = (false, eval e X.env) :: starEach es X.env := by rfl) (hpl : (backTo pos (starEach es X.env)).any (·.1) = false := by rfl) :
    RS X W k (.Raise (some (.Call (.Name x p) (e :: es) [] pos)) none pos2) (fun r => lift (fa r) r fun ds => if ds.length = (cflds c).length ∧ ds.length ≤ 1000 then .er (.exc c ds.reverse) r else .bad) := by
  subst hx
  obtain ⟨f, fd, ps, F1, iC, tI, hb⟩ := M.ex
  refine (ps_raise hc tk (pmk_oex M.T iC tI F1 hr hb .nil (passL (X := X)) hg M.gC ha hdb he hpl)).imp fun D σ H ⟨H0, F0, fp, F, r, m, o⟩ => ⟨H0, F0, fp, F, r, m, o.lift m fun F' H' ds gr o' vs rv => ?_⟩
  split at o'
  · rename_i hl
    have hlen := rv.length
    refine ⟨by omega, fun a na => ⟨a, vs, by simp, by omega, upd_same, fun dx ndx ne => ⟨rfl, dx, _, upd_same, by rw [upd_ne ne, upd_same], ?_, ?_⟩⟩⟩
    · rw [upd_ne ne] at ndx
      exact ndx
    · rw [upd_ne ne] at ndx
      have eH : upd (del (upd (upd (upd H' a (exo a C none)) dx (exd dx ((cflds c).zip vs.reverse))) a (exo a C (some dx))) a) dx (.xd ((cflds c).zip vs.reverse)) = upd H' dx (.xd ((cflds c).zip vs.reverse)) := by
        funext b
        by_cases hb : b = dx
        · rw [hb, upd_same, upd_same]
        · rw [upd_ne hb, upd_ne hb]
          by_cases ha : b = a
          · rw [ha, del_same, na]
          · rw [del_ne ha, upd_ne ha, upd_ne hb, upd_ne ha]
      rw [eH]
      have nF : F' dx = none := gr.sub.free ndx
      have s1 : Same F' (upd F' dx (.xd ((cflds c).zip vs.reverse))) := fun b u q => by rw [upd_ne (ne_of_none q nF)]; exact q
      have g2 : Grow F' H' (upd F' dx (.xd ((cflds c).zip vs.reverse))) (upd H' dx (.xd ((cflds c).zip vs.reverse))) := Grow.of
        (fun b u q => by rw [upd_ne (ne_of_none q ndx)]; exact q)
        s1
        (fun b u q => by
          by_cases hb : b = dx
          · subst hb; rw [upd_same] at q ⊢; exact q
          · rw [upd_ne hb] at q ⊢; exact gr.sub b u q)
        (fun b u q => by
          by_cases hb : b = dx
          · subst hb; exact .inr ndx
          · rw [upd_ne hb] at q; exact .inl q)
      exact o' fp _ σ _ _ _ g2.f ((m.grow gr).grow g2) ⟨c, vs.reverse, ds.reverse, rfl, by rw [ca_of (G := gOf X) M.gC], (rv.mono s1).reverse, .inr ⟨dx, rfl, upd_same, by rw [List.length_reverse]; omega⟩⟩
  · exact o'.elim
end
section
variable {P : Program} {w : World} {K : PySem.W.Frag} {mg : Str → Option Value} {base : Heap} {C f : Addr} {fd : FuncData} {st : Stmt} {qual fn gn pn qn : Str}
theorem exc1_ok (F : Fun K "__init__" qual st f fd) (S : FnScope ([("self" : Str), pn]) ([("self" : Str), pn]) (defScope st)) (T : OexC K C) (no : PySem.W.findIn K (.ref C) fn = some none)
    (hb : ∀ X : Cx, X.N = [("self" : Str), pn] → X.env.scope = defScope st → PSs X (defBody st) (tOst X.K fn (tVar 0) (tVar 1))) : FnOk P w K mg base (L2N.CX P w) 1 f fd [("self" : Str), pn] (spE C [fn]) := by
  refine Fun.okN F S (fun vs H Q E ⟨a, ys, e, hl, _⟩ => by rw [e, List.length_cons, hl]; rfl) fun cdv A outer s H vs Q E hr ⟨a, ys, e, hl, ha, k⟩ => ?_
  subst e
  match ys, hl with
  | [y], _ => exact ⟨_, hb _ rfl rfl, _, rfl, _, rfl, a, C, rfl, T, no, .inl ⟨ha, fun dx nd ne => k dx nd ne⟩⟩
theorem exc2_ok (F : Fun K "__init__" qual st f fd) (S : FnScope ([("self" : Str), pn, qn]) ([("self" : Str), pn, qn]) (defScope st)) (T : OexC K C) (no : PySem.W.findIn K (.ref C) fn = some none) (no2 : PySem.W.findIn K (.ref C) gn = some none)
    (hb : ∀ X : Cx, X.N = [("self" : Str), pn, qn] → X.env.scope = defScope st → PSs X (defBody st) (tSeq (tOst X.K fn (tVar 0) (tVar 1)) (tOst X.K gn (tVar 0) (tVar 2)))) : FnOk P w K mg base (L2N.CX P w) 1 f fd [("self" : Str), pn, qn] (spE C [gn, fn]) := by
  refine Fun.okN F S (fun vs H Q E ⟨a, ys, e, hl, _⟩ => by rw [e, List.length_cons, hl]; rfl) fun cdv A outer s H vs Q E hr ⟨a, ys, e, hl, ha, k⟩ => ?_
  subst e
  match ys, hl with
  | [y, z], _ =>
    refine ⟨_, hb _ rfl rfl, _, rfl, _, rfl, a, C, rfl, T, no, .inl ⟨ha, fun dx nd ne => ⟨_, rfl, _, rfl, a, C, rfl, T, no2, .inr ⟨dx, [(fn, y)], upd_same, by rw [upd_ne ne, upd_same], (by show 1 ≤ 900; decide), ?_⟩⟩⟩⟩
    have q := k dx nd ne
    have eH : upd (upd (upd H dx (exd dx [(fn, y)])) a (exo a C (some dx))) dx (exd dx [(gn, z), (fn, y)]) = upd (upd H dx (exd dx [(gn, z), (fn, y)])) a (exo a C (some dx)) := by
      funext b
      by_cases hb : b = dx
      · rw [hb, upd_same, upd_ne ne, upd_same]
      · rw [upd_ne hb]
        by_cases hba : b = a
        · rw [hba, upd_same, upd_same]
        · rw [upd_ne hba, upd_ne hb, upd_ne hba, upd_ne hb]
    show Q .non _
    rw [eH]
    exact q
end
end Mir
namespace Mir
open PySem PySem.Spec PyProof.Rows L2
variable [Tn]
/-- the longest list that is looked after -/
noncomputable def lim : Nat := 1000000
theorem lim_le : lim ≤ sizeLine := by rw [sizeLine_eq]; decide
section
variable {G : GC} {F H F' H' : Hp} {v : V} {d : D}
theorem RdD.grow (h : RdD G F H v d) (g : Grow F H F' H') : RdD G F' H' v d := h.elim (fun r => .inl (r.mono g.f)) fun ⟨A, o⟩ => .inr ⟨A, o.grow g⟩
theorem RdD.int {i : Int} (h : RdD G F H v (.int i)) : v = .int i := by
  rcases h with h | ⟨A, h⟩ <;> cases h
  rfl
theorem RdD.bl {i : Bool} (h : RdD G F H v (.bl i)) : v = .bl i := by
  rcases h with h | ⟨A, h⟩ <;> cases h
  rfl
theorem RdD.str {i : Str} (h : RdD G F H v (.str i)) : v = .str i := by
  rcases h with h | ⟨A, h⟩ <;> cases h
  rfl
theorem RdD.non (h : RdD G F H v .non) : v = .non := by
  rcases h with h | ⟨A, h⟩ <;> cases h
  rfl
theorem RdD.lst {ds : List D} (s : Same F H) (h : RdD G F H v (.lst ds)) : ∃ a vs, v = .ref a ∧ H a = some (.lst vs) ∧ RepAll G F vs ds := by
  rcases h with h | ⟨A, h⟩
  · cases h with
    | lst e r => exact ⟨_, _, rfl, s _ _ e, r⟩
  · cases h with
    | lst _ e _ r _ => exact ⟨_, _, rfl, e, r.to_rep.2⟩
theorem RdD.tupS {ds : List D} (h : RdD G F H v (.tup ds)) : Rep G F v (.tup ds) := by
  rcases h with h | ⟨A, h⟩
  · exact h
  · cases h with
    | tup e => cases e
theorem RdD.tup {ds : List D} (s : Same F H) (h : RdD G F H v (.tup ds)) : ∃ a vs, v = .ref a ∧ SqT G.K H a vs ∧ RepAll G F vs ds := by
  cases h.tupS with
  | tup e r => exact ⟨_, _, rfl, Same.sqT s e, r⟩
theorem RdD.scr {ns : List Int} (s : Same F H) (h : RdD G F H v (.scr ns)) : ∃ a, v = .ref a ∧ SqL G.K H a (ns.map V.int) := by
  rcases h with h | ⟨A, h⟩
  · cases h with
    | scr e => exact ⟨_, rfl, s.seq e⟩
  · cases h
theorem RdD.obj {c : Nat} {vs : List D} (s : Same F H) (h : RdD G F H v (.obj c vs)) : ∃ a dx fs, v = .ref a ∧ H a = some (.ins (G.ca c) dx fs) := by
  rcases h with h | ⟨A, h⟩
  · cases h with
    | obj e _ _ => exact ⟨_, _, _, rfl, s _ _ e⟩
  · cases h with
    | obj _ e _ _ _ _ => exact ⟨_, _, _, rfl, e⟩
theorem RdD.dic {ks vs : List D} (s : Same F H) (h : RdD G F H v (.dic ks vs)) : ∃ a o xs ws, v = .ref a ∧ H a = some (.ext (isObj' a o)) ∧ (a == sysModules) = false ∧ DicO G o xs ∧ Vals ws (xs.map (·.2.2)) ∧ RepAll G F (xs.map fun x => V.ref x.2.1) ks ∧ ks.map keyOf = xs.map (fun x => some x.1) ∧ RepAll G F ws vs := by
  rcases h with h | ⟨A, h⟩
  · cases h with
    | dic e z1 z2 z3 z4 z5 r => exact ⟨_, _, _, _, rfl, s _ _ e, z1, z2, z3, z4, z5, r⟩
  · cases h with
    | dic _ e _ z1 z2 z3 z4 z5 r _ => exact ⟨_, _, _, _, rfl, e, z1, z2, z3, z4, z5, r.to_rep.2⟩
theorem RdD.dct {ks : List Key} {vs : List D} (s : Same F H) (h : RdD G F H v (.dct ks vs)) : ∃ a kvs, v = .ref a ∧ (H a = some (.dK kvs) ∨ KDct G a kvs) ∧ ks = kvs.map (·.1) ∧ RepAll G F (kvs.map (·.2)) vs := by
  rcases h with h | ⟨A, h⟩
  · cases h with
    | dct e z r => exact ⟨_, _, rfl, .inl (s _ _ e), z, r⟩
    | dctK e z r => exact ⟨_, _, rfl, .inr e, z, r⟩
  · cases h with
    | dct _ e _ z r _ => exact ⟨_, _, rfl, .inl e, z, r.to_rep.2⟩
theorem RdD.mix {ks vs : List D} {k : Key} {d : D} (s : Same F H) (h : RdD G F H v (.mix ks vs k d)) : ∃ a o xs ws u w, v = .ref a ∧ H a = some (.ext (isObj' a o)) ∧ (a == sysModules) = false ∧ MixO G o xs k u ∧ Vals ws (xs.map (·.2.2)) ∧ RepAll G F (xs.map fun x => V.ref x.2.1) ks ∧ ks.map keyOf = xs.map (fun x => some x.1) ∧ RepAll G F ws vs ∧ RelV w u ∧ Rep G F w d := by
  rcases h with h | ⟨A, h⟩
  · cases h with
    | mix e z1 z2 z3 z4 z5 r z6 z7 => exact ⟨_, _, _, _, _, _, rfl, s _ _ e, z1, z2, z3, z4, z5, r, z6, z7⟩
  · cases h with
    | mix _ e _ z1 z2 z3 z4 z5 r z6 z7 => exact ⟨_, _, _, _, _, _, rfl, e, z1, z2, z3, z4, z5, r, z6, z7⟩
theorem dk_any {X : Cx} {pins : List (Addr × Obj)} {σ : L2.St} {H : Hp} {s : Shared} {a : Addr} {kvs : List (Key × V)} (I : L2.Inv X pins σ H s) (h : H a = some (.dK kvs) ∨ KDct (gOf X) a kvs) : kvs.length ≤ sizeLine ∧ (a == sysModules) = false ∧ ∃ vs, KV kvs vs ∧ s.heap.DictOf (mixKind X.prog X.w) a vs := by
  rcases h with h | ⟨h1, h2, o, h3, h4⟩
  · exact dk_of I.hok h
  · exact ⟨h2, h1, h4 _ (I.kIn _ _ h3)⟩
/-- a new object, shared -/
theorem Grow.mk1 {p : Addr} {o : HO} (s : Same F H) (hp : H p = none) : Grow F H (upd F p o) (upd H p o) := Grow.of
  (fun b u q => by rw [upd_ne (ne_of_none q hp)]; exact q)
  (fun b u q => by rw [upd_ne (ne_of_none (s b u q) hp)]; exact q)
  (fun b u q => by
    by_cases hb : b = p
    · subst hb; rw [upd_same] at q ⊢; exact q
    · rw [upd_ne hb] at q ⊢; exact s b u q)
  (fun b u q => by
    by_cases hb : b = p
    · subst hb; exact .inr hp
    · rw [upd_ne hb] at q; exact .inl q)
/-- a new object, one's own -/
theorem Grow.own {p : Addr} {o : HO} (s : Same F H) (hp : H p = none) : Grow F H F (upd H p o) := Grow.of
  (fun b u q => by rw [upd_ne (ne_of_none q hp)]; exact q)
  (Same.refl _)
  (fun b u q => by rw [upd_ne (ne_of_none (s b u q) hp)]; exact s b u q)
  (fun b u q => .inl q)
end
noncomputable def toPy : D → Option PyData
  | .non => some .none
  | .bl b => some (.bool b)
  | .int i => some (.int i)
  | .str s => some (.str s)
  | .tup xs => (toPys xs).map .tuple
  | .lst xs => (toPys xs).map .list
  | _ => none
where toPys : List D → Option (List PyData)
  | [] => some []
  | x :: xs => match toPy x, toPys xs with
    | some p, some ps => some (p :: ps)
    | _, _ => none
mutual
theorem Rep.dp {G : GC} {F H : Hp} (s : Same F H) : ∀ {v : V} {d : D} {p : PyData}, Rep G F v d → toPy d = some p → Dp G.K H v p
  | _, _, _, .non, e => by simp only [toPy, Option.some.injEq] at e; subst e; exact .non
  | _, _, _, .bl b, e => by simp only [toPy, Option.some.injEq] at e; subst e; exact .bl b
  | _, _, _, .int i, e => by simp only [toPy, Option.some.injEq] at e; subst e; exact .int i
  | _, _, _, .str x, e => by simp only [toPy, Option.some.injEq] at e; subst e; exact .str x
  | _, _, _, .tup h r, e => by
    simp only [toPy, Option.map_eq_some_iff] at e
    obtain ⟨ps, e1, e2⟩ := e
    subst e2
    exact .tup (Same.sqT s h) (RepAll.dp s r e1)
  | _, _, _, .lst h r, e => by
    simp only [toPy, Option.map_eq_some_iff] at e
    obtain ⟨ps, e1, e2⟩ := e
    subst e2
    exact .lst (.of (s _ _ h)) (RepAll.dp s r e1)
  | _, _, _, .scr _, e => by simp [toPy] at e
  | _, _, _, .dic _ _ _ _ _ _ _, e => by simp [toPy] at e
  | _, _, _, .dct _ _ _, e => by simp [toPy] at e
  | _, _, _, .dctK _ _ _, e => by simp [toPy] at e
  | _, _, _, .mix .., e => by simp [toPy] at e
  | _, _, _, .opq, e => by simp [toPy] at e
  | _, _, _, .obj _ _ _, e => by simp [toPy] at e
  | _, _, _, .exc _ _, e => by simp [toPy] at e
  | _, _, _, .excF _ _ _ _, e => by simp [toPy] at e
  | _, _, _, .cls _, e => by simp [toPy] at e
  | _, _, _, .ty _, e => by simp [toPy] at e
theorem RepAll.dp {G : GC} {F H : Hp} (s : Same F H) : ∀ {vs : List V} {ds : List D} {ps : List PyData}, RepAll G F vs ds → toPy.toPys ds = some ps → DpAll G.K H vs ps
  | _, _, _, .nil, e => by simp only [toPy.toPys, Option.some.injEq] at e; subst e; exact .nil
  | _, _, _, .cons r t, e => by
    rw [toPy.toPys] at e
    split at e
    · rename_i p ps h1 h2
      cases e
      exact .cons (Rep.dp s r h1) (RepAll.dp s t h2)
    · cases e
end
theorem RdD.dp {G : GC} {F H : Hp} {v : V} {d : D} {p : PyData} (s : Same F H) (h : RdD G F H v d) (e : toPy d = some p) : Dp G.K H v p := by
  rcases h with h | ⟨A, h⟩
  · exact h.dp s e
  · cases h with
    | lst _ h _ r _ =>
      simp only [toPy, Option.map_eq_some_iff] at e
      obtain ⟨ps, e1, e2⟩ := e
      subst e2
      exact .lst (.of h) (r.to_rep.2.dp s e1)
    | tup z => cases z
    | dic => simp [toPy] at e
    | dct => simp [toPy] at e
    | mix => simp [toPy] at e
    | obj => simp [toPy] at e
noncomputable def addD : D → D → Res D
  | .int i, .int j => .ok (.int (i + j))
  | .str s, .str t => if s.length + t.length ≤ lim then .ok (.str (s ++ t)) else .bad
  | .tup xs, .tup ys => if xs.length + ys.length ≤ lim then .ok (.tup (xs ++ ys)) else .bad
  | .lst xs, .lst ys => if xs.length + ys.length ≤ lim then .ok (.lst (xs ++ ys)) else .bad
  | _, _ => .bad
noncomputable def subD : D → D → Res D
  | .int i, .int j => .ok (.int (i - j))
  | _, _ => .bad
/-- the bits of a number -/
noncomputable def bits (i : Int) : Nat := i.natAbs.log2
noncomputable instance (i j : Int) : Decidable (CMul i j) := by unfold CMul; infer_instance
noncomputable def mulD : D → D → Res D
  | .int i, .int j => if bits i + bits j < 1000000 ∨ CMul i j then .ok (.int (i * j)) else .bad
  | .lst xs, .int k => if k ≤ 1000 ∧ 0 ≤ k ∧ xs.length ≤ 1000 then .ok (.lst (List.replicate k.toNat xs).flatten) else .bad
  | .tup xs, .int k => if k ≤ 1000 ∧ 0 ≤ k ∧ xs.length ≤ 1000 then .ok (.tup (List.replicate k.toNat xs).flatten) else .bad
  | _, _ => .bad
noncomputable def modD : D → D → Res D
  | .int i, .int j => if 0 < j then .ok (.int (i % j)) else .bad
  | _, _ => .bad
noncomputable def divD : D → D → Res D
  | .int i, .int j => if 0 < j ∧ bits j < 9000 then .ok (.int (i / j)) else .bad
  | _, _ => .bad
noncomputable def cmpD (p : Int → Int → Bool) : D → D → Res D
  | .int i, .int j => .ok (.bl (p i j))
  | _, _ => .bad
noncomputable def eqS (a b : D) : Res D := match toPy a, toPy b with
  | some p, some q => if SeqAt.shaped p = true ∧ SeqAt.shaped q = true then .ok (.bl (PyData.eqv p q)) else .bad
  | _, _ => .bad
noncomputable def neS (a b : D) : Res D := match toPy a, toPy b with
  | some p, some q => if SeqAt.shaped p = true ∧ SeqAt.shaped q = true then .ok (.bl (!PyData.eqv p q)) else .bad
  | _, _ => .bad
section
variable {X : Cx}
theorem opD_I {rr : R2} {op : D → D → Res D} (h : ∀ a b d, op a b = .ok d → ∃ i j r, a = .int i ∧ b = .int j ∧ (∀ F, Rep (gOf X) F r d) ∧ ∀ (H : Hp) (Q : VK), Q r H → rr (.int i) (.int j) H Q) : OpD (gOf X) rr .R .R .S op := fun F H x y a b d Q Ha Hb s ka kb e k => by
  obtain ⟨i, j, r, rfl, rfl, hr, q⟩ := h a b d e
  rw [RdD.int (show RdD _ _ _ x _ from ka), RdD.int (show RdD _ _ _ y _ from kb)]
  exact q H Q (k r F H (Grow.refl s) (hr F))
theorem sub_ok : OpD (gOf X) (rI0 fun i j => .int (i - j)) .R .R .S subD := opD_I fun a b d e => by
  unfold subD at e
  split at e <;> cases e
  exact ⟨_, _, _, rfl, rfl, fun F => .int _, fun H Q q => ⟨_, _, rfl, rfl, q⟩⟩
theorem mod_ok : OpD (gOf X) (rI (fun _ j => 0 < j) fun i j => .int (i % j)) .R .R .S modD := opD_I fun a b d e => by
  unfold modD at e
  split at e
  · split at e <;> cases e
    rename_i h
    exact ⟨_, _, _, rfl, rfl, fun F => .int _, fun H Q q => ⟨_, _, rfl, rfl, h, q⟩⟩
  · cases e
theorem div_ok : OpD (gOf X) (rI CDivW fun i j => .int (i / j)) .R .R .S divD := opD_I fun a b d e => by
  unfold divD at e
  split at e
  · split at e <;> cases e
    rename_i h
    exact ⟨_, _, _, rfl, rfl, fun F => .int _, fun H Q q => ⟨_, _, rfl, rfl, h, q⟩⟩
  · cases e
theorem cmp_ok {p : Int → Int → Bool} : OpD (gOf X) (rI0 fun i j => .bl (p i j)) .R .R .S (cmpD p) := opD_I fun a b d e => by
  unfold cmpD at e
  split at e <;> cases e
  exact ⟨_, _, _, rfl, rfl, fun F => .bl _, fun H Q q => ⟨_, _, rfl, rfl, q⟩⟩
theorem eq_ok : OpD (gOf X) (rEqD X.K) .R .R .S eqS := fun F H x y a b d Q Ha Hb s ka kb e k => by
  unfold eqS at e
  split at e
  · rename_i p q h1 h2
    split at e <;> cases e
    rename_i h
    exact ⟨p, q, RdD.dp s (show RdD (gOf X) F H x a from ka) h1, RdD.dp s (show RdD (gOf X) F H y b from kb) h2, h.1, h.2, k _ F H (Grow.refl s) (.bl _)⟩
  · cases e
theorem ne_ok : OpD (gOf X) (rNeD X.K) .R .R .S neS := fun F H x y a b d Q Ha Hb s ka kb e k => by
  unfold neS at e
  split at e
  · rename_i p q h1 h2
    split at e <;> cases e
    rename_i h
    exact ⟨p, q, RdD.dp s (show RdD (gOf X) F H x a from ka) h1, RdD.dp s (show RdD (gOf X) F H y b from kb) h2, h.1, h.2, k _ F H (Grow.refl s) (.bl _)⟩
  · cases e
noncomputable def rAddA (K : PySem.W.Frag) : R2 := fun x y H Q => (rI0 (fun i j => .int (i + j)) x y H Q ∨ ∃ i j, x = .str i ∧ y = .str j ∧ i.length + j.length ≤ sizeLine ∧ Q (.str (i ++ j)) H) ∨ (rCatA K x y H Q ∨ rCat x y H Q)
theorem op_addA : OpR X (binaryOp .Add) (rAddA X.K) := (op_add.or op_add_str).or (op_catA.or op_cat)
theorem add_ok : OpD (gOf X) (rAddA X.K) .R .R .S addD := fun F H x y a b d Q Ha Hb s ka kb e k => by
  have ka : RdD (gOf X) F H x a := ka
  have kb : RdD (gOf X) F H y b := kb
  unfold addD at e
  split at e
  · cases e
    exact .inl (.inl ⟨_, _, ka.int, kb.int, k _ F H (Grow.refl s) (.int _)⟩)
  · split at e <;> cases e
    rename_i h
    exact .inl (.inr ⟨_, _, ka.str, kb.str, Nat.le_trans h lim_le, k _ F H (Grow.refl s) (.str _)⟩)
  · split at e <;> cases e
    rename_i h
    obtain ⟨p, vs, rfl, h1, r1⟩ := ka.tup s
    obtain ⟨q, ws, rfl, h2, r2⟩ := kb.tup s
    refine .inr (.inl ⟨p, q, vs, ws, rfl, rfl, h1, h2, Nat.le_trans (by rw [r1.length, r2.length]; exact h) lim_le, fun z => ?_, fun _ z => ?_, fun _ _ t ht => ?_⟩)
    · subst z
      cases r1
      exact k _ F H (Grow.refl s) kb.tupS
    · subst z
      cases r2
      rw [List.append_nil] at k
      exact k _ F H (Grow.refl s) ka.tupS
    · exact k _ _ _ (Grow.mk1 s ht) (Rep.tup (.of upd_same) ((r1.append r2).mono (Grow.mk1 s ht).f))
  · split at e <;> cases e
    rename_i h
    obtain ⟨p, vs, rfl, h1, r1⟩ := ka.lst s
    obtain ⟨q, ws, rfl, h2, r2⟩ := kb.lst s
    exact .inr (.inr ⟨p, q, vs, ws, rfl, rfl, h1, h2, Nat.le_trans (by rw [r1.length, r2.length]; exact h) lim_le, fun t ht => k _ _ _ (Grow.mk1 s ht) (Rep.lst upd_same ((r1.append r2).mono (Grow.mk1 s ht).f))⟩)
  · cases e
theorem rep_all {G : GC} {F : Hp} {vs : List V} {ds : List D} (r : RepAll G F vs ds) : ∀ n : Nat, RepAll G F (List.replicate n vs).flatten (List.replicate n ds).flatten
  | 0 => .nil
  | n + 1 => by
    rw [List.replicate_succ, List.flatten_cons, List.replicate_succ, List.flatten_cons]
    exact r.append (rep_all r n)
theorem tuple_mulOne (l : Addr) (items : Array Value) (n : Nat) (dd : Option Addr) (sl : Array (Option Value)) (x : Int) (u : Tok) (c0 : (decide (x < -(2 ^ 63)) || decide (x ≥ 2 ^ 63)) = false) (c1 : (items.isEmpty || x == 1) = true) :
    Meets (Builtin.«tuple.__mul__» ⟨[.ref l, .int x u], []⟩) (fun _ R s => s.heap.get? l = some { cls := .type "tuple", dict := dd, data := .seq items n, slots := sl } ∧
      R (.ok (.ret (Value.ref l))) s) :=
  .of_wp fun prog w A R s h => by
    obtain ⟨hp, g, d, tk, os⟩ := s
    obtain ⟨hl, h⟩ := h
    have f1 := AutoSeq1.idx_int
    wp_walk using wpAny_loadPart' hl
    repeat (first
      | (refine wpAny_ite_false (decide_eq_false (by rw [c0]; exact Bool.false_ne_true)) ?_; wp_walk using wpAny_loadPart' hl)
      | (refine wpAny_ite_true (decide_eq_true (by rw [c1])) ?_; wp_walk using wpAny_loadPart' hl))
    exact ⟨_, rfl, h⟩
theorem tuple_mulNone (l : Addr) (items : Array Value) (n : Nat) (dd : Option Addr) (sl : Array (Option Value)) (x : Int) (u : Tok) (c0 : (decide (x < -(2 ^ 63)) || decide (x ≥ 2 ^ 63)) = false) (c1 : (items.isEmpty || x == 1) = false) (c2 : (decide (x ≤ 0) || items.isEmpty) = true) :
    Meets (Builtin.«tuple.__mul__» ⟨[.ref l, .int x u], []⟩) (fun _ R s => s.heap.get? l = some { cls := .type "tuple", dict := dd, data := .seq items n, slots := sl } ∧
      R (.ok (.ret (Value.ref s.heap.objs.size))) { s with heap := s.heap.push { cls := Value.type "tuple", data := Data.seq #[] }, toks := s.toks }) :=
  .of_wp fun prog w A R s h => by
    obtain ⟨hp, g, d, tk, os⟩ := s
    obtain ⟨hl, h⟩ := h
    have f1 := AutoSeq1.idx_int
    wp_walk using wpAny_loadPart' hl
    repeat (first
      | (refine wpAny_ite_false (decide_eq_false (by rw [c0]; exact Bool.false_ne_true)) ?_; wp_walk using wpAny_loadPart' hl)
      | (refine wpAny_ite_false (decide_eq_false (by rw [c1]; exact Bool.false_ne_true)) ?_; wp_walk using wpAny_loadPart' hl)
      | (refine wpAny_ite_true (decide_eq_true (by rw [c2])) ?_; wp_walk using wpAny_loadPart' hl))
    exact ⟨_, rfl, h⟩
noncomputable def rRepT1 (K : PySem.W.Frag) : R2 := fun x y H Q => ∃ l k xs, x = .ref l ∧ y = .int k ∧ SqT K H l xs ∧ (xs = [] ∨ k = 1) ∧ 0 ≤ k ∧ k ≤ 1000 ∧ Q (.ref l) H
noncomputable def rRepT0 (K : PySem.W.Frag) : R2 := fun x y H Q => ∃ l xs, x = .ref l ∧ y = .int 0 ∧ SqT K H l xs ∧ xs ≠ [] ∧ ∀ p, H p = none → Q (.ref p) (upd H p (.tup []))
theorem op_repT1 {X : Cx} : OpR X (binaryOp .Mult) (rRepT1 X.K) := by
  intro pins s σ H x y v u Q I rx ry h
  obtain ⟨l, k, xs, rfl, rfl, hT, hne, h1, h2, q⟩ := h
  cases rx
  obtain ⟨t, rfl⟩ := ry
  obtain ⟨its, r, ⟨⟨cls, dd, data, sl⟩, ho, hc, n, hd⟩, hs⟩ := I.tuple hT
  simp only at hc hd
  subst hc hd
  have hle : its.length = xs.length := r.length.symm
  have c0 : (decide (k < -(2 ^ 63)) || decide (k ≥ 2 ^ 63)) = false := by
    rw [decide_eq_false (by omega), decide_eq_false (by omega)] <;> rfl
  have c1 : (its.toArray.isEmpty || k == 1) = true := by
    rcases hne with rfl | rfl
    · have : its = [] := List.eq_nil_of_length_eq_zero hle
      subst this
      rfl
    · simp
  refine wpAny_binaryOp_repeat_ref (T := "tuple") (U := "int") (by decide) ⟨_, ho, rfl⟩ (fun s' => typeIs_int s' k t) noFill_tuple_mul F.fills_int_mul F.slot_int_rmul repeat_tuple F.slot_int_index.lookup
    (call_meets F.slot_int_rmul (typeIs_int s k t) F.entry_int_rmul (F.args_int_rmul_2 _ _) (int_rmul_tuple k t l its.toArray n dd sl)
      ⟨ho, rfl, ⟨_, ho, rfl⟩, call_meets F.slot_tuple_mul ⟨_, ho, rfl⟩ F.entry_tuple_mul (F.args_tuple_mul_2 _ _) (tuple_mulOne l its.toArray n dd sl k t c0 c1) ⟨ho, ?_⟩⟩)
  exact ⟨.ref l, _, I, rfl, q⟩
theorem op_repT0 {X : Cx} : OpR X (binaryOp .Mult) (rRepT0 X.K) := by
  intro pins s σ H x y v u Q I rx ry h
  obtain ⟨l, xs, rfl, rfl, hT, hne, q⟩ := h
  cases rx
  obtain ⟨t, rfl⟩ := ry
  obtain ⟨its, r, ⟨⟨cls, dd, data, sl⟩, ho, hc, n, hd⟩, hs⟩ := I.tuple hT
  simp only at hc hd
  subst hc hd
  have hle : its.length = xs.length := r.length.symm
  have hn : its ≠ [] := fun e => hne (by
    rw [e] at hle
    exact List.eq_nil_of_length_eq_zero hle.symm)
  have hi : its.toArray.isEmpty = false := by
    cases its with
    | nil => exact absurd rfl hn
    | cons a b => rfl
  have c0 : (decide ((0 : Int) < -(2 ^ 63)) || decide ((0 : Int) ≥ 2 ^ 63)) = false := by decide
  have c1 : (its.toArray.isEmpty || (0 : Int) == 1) = false := by rw [hi]; rfl
  have c2 : (decide ((0 : Int) ≤ 0) || its.toArray.isEmpty) = true := by simp
  refine wpAny_binaryOp_repeat_ref (T := "tuple") (U := "int") (by decide) ⟨_, ho, rfl⟩ (fun s' => typeIs_int s' 0 t) noFill_tuple_mul F.fills_int_mul F.slot_int_rmul repeat_tuple F.slot_int_index.lookup
    (call_meets F.slot_int_rmul (typeIs_int s 0 t) F.entry_int_rmul (F.args_int_rmul_2 _ _) (int_rmul_tuple 0 t l its.toArray n dd sl)
      ⟨ho, rfl, ⟨_, ho, rfl⟩, call_meets F.slot_tuple_mul ⟨_, ho, rfl⟩ F.entry_tuple_mul (F.args_tuple_mul_2 _ _) (tuple_mulNone l its.toArray n dd sl 0 t c0 c1 c2) ⟨ho, ?_⟩⟩)
  refine ⟨.ref s.heap.objs.size, _, I.laid (t' := s.toks) (o := .tup []) (fun b ob q => Heap.get?_push_of_some _ q) (Nat.le_refl _) ?_, rfl, q _ (I.hok.fresh (Nat.le_refl _))⟩
  exact ⟨by rw [sizeLine_eq]; simp, [], .nil, IsTup.new _ _⟩
noncomputable def rMulA (K : PySem.W.Frag) : R2 := fun x y H Q => (rI CMulW (fun i j => .int (i * j)) x y H Q ∨ rI CMul (fun i j => .int (i * j)) x y H Q) ∨ (rRep x y H Q ∨ (rRepT K x y H Q ∨ (rRepT1 K x y H Q ∨ rRepT0 K x y H Q)))
theorem op_mulA : OpR X (binaryOp .Mult) (rMulA X.K) := (op_mulW.or op_mul).or (op_rep.or (op_repT.or (op_repT1.or op_repT0)))
theorem mul_ok : OpD (gOf X) (rMulA X.K) .R .R .S mulD := fun F H x y a b d Q Ha Hb s ka kb e k => by
  have ka : RdD (gOf X) F H x a := ka
  have kb : RdD (gOf X) F H y b := kb
  unfold mulD at e
  split at e
  · split at e <;> cases e
    rename_i h
    rcases h with h | h
    · exact .inl (.inl ⟨_, _, ka.int, kb.int, h, k _ F H (Grow.refl s) (.int _)⟩)
    · exact .inl (.inr ⟨_, _, ka.int, kb.int, h, k _ F H (Grow.refl s) (.int _)⟩)
  · split at e <;> cases e
    rename_i h
    obtain ⟨p, vs, rfl, h1, r1⟩ := ka.lst s
    refine .inr (.inl ⟨p, _, vs, rfl, kb.int, h1, by omega, by omega, ?_, fun t ht => k _ _ _ (Grow.mk1 s ht) (Rep.lst upd_same ((rep_all r1 _).mono (Grow.mk1 s ht).f))⟩)
    rw [sizeLine_eq, r1.length]
    exact Nat.le_trans (Nat.mul_le_mul h.2.2 (show _ ≤ 1000 by omega)) (by decide)
  · split at e <;> cases e
    rename_i h
    obtain ⟨p, vs, rfl, h1, r1⟩ := ka.tup s
    rename_i xs0 k0 _ _
    by_cases e0 : vs = []
    · subst e0
      cases r1
      refine .inr (.inr (.inr (.inl ⟨p, _, [], rfl, kb.int, h1, .inl rfl, by omega, by omega, k _ F H (Grow.refl s) ?_⟩)))
      rw [show (List.replicate (Int.toNat _) ([] : List D)).flatten = [] by simp]
      exact (RdD.tupS ka)
    · by_cases e1 : k0 = 1
      · subst e1
        refine .inr (.inr (.inr (.inl ⟨p, _, vs, rfl, kb.int, h1, .inr rfl, by omega, by omega, k _ F H (Grow.refl s) ?_⟩)))
        rw [show (List.replicate (Int.toNat 1) xs0).flatten = xs0 by simp]
        exact (RdD.tupS ka)
      · by_cases e2 : k0 = 0
        · subst e2
          refine .inr (.inr (.inr (.inr ⟨p, vs, rfl, kb.int, h1, e0, fun t ht => k _ _ _ (Grow.mk1 s ht) ?_⟩)))
          rw [show (List.replicate (Int.toNat 0) xs0).flatten = ([] : List D) by simp]
          exact Rep.tup (.of upd_same) .nil
        · refine .inr (.inr (.inl ⟨p, _, vs, rfl, kb.int, h1, e0, by omega, by omega, by rw [r1.length]; omega, fun t ht => k _ _ _ (Grow.mk1 s ht) (Rep.tup (.of upd_same) ((rep_all r1 _).mono (Grow.mk1 s ht).f))⟩))
  · cases e
noncomputable def notInS (x xs : D) : Res D := match toPy x, toPy xs with
  | some p, some (.list ps) => if SeqAt.shaped p = true ∧ SeqAt.shaped (.list ps) = true then .ok (.bl (!ps.any fun z => PyData.eqv z p)) else .bad
  | _, _ => .bad
theorem notIn_ok : OpD (gOf X) (rNotInD X.K) .R .R .S notInS := fun F H x y a b d Q Ha Hb s ka kb e k => by
  unfold notInS at e
  split at e
  · rename_i p ps h1 h2
    split at e <;> cases e
    rename_i h
    exact ⟨p, ps, RdD.dp s (show RdD (gOf X) F H x a from ka) h1, RdD.dp s (show RdD (gOf X) F H y b from kb) h2, h.1, h.2, k _ F H (Grow.refl s) (.bl _)⟩
  · cases e
end
theorem ne_add : NoEr2 addD := fun a b e z => by unfold addD at z; split at z <;> (try split at z) <;> cases z
theorem ne_sub : NoEr2 subD := fun a b e z => by unfold subD at z; split at z <;> cases z
theorem ne_mul : NoEr2 mulD := fun a b e z => by unfold mulD at z; split at z <;> (try split at z) <;> cases z
theorem ne_mod : NoEr2 modD := fun a b e z => by unfold modD at z; split at z <;> (try split at z) <;> cases z
theorem ne_div : NoEr2 divD := fun a b e z => by unfold divD at z; split at z <;> (try split at z) <;> cases z
theorem ne_cmp {p : Int → Int → Bool} : NoEr2 (cmpD p) := fun a b e z => by unfold cmpD at z; split at z <;> cases z
theorem ne_eq : NoEr2 eqS := fun a b e z => by unfold eqS at z; split at z <;> (try split at z) <;> cases z
theorem ne_ne : NoEr2 neS := fun a b e z => by unfold neS at z; split at z <;> (try split at z) <;> cases z
theorem ne_notIn : NoEr2 notInS := fun a b e z => by unfold notInS at z; split at z <;> (try split at z) <;> cases z
section
variable {X : Cx} {W : Wi} {k : Nat} {a b c : Expr} {fa fb fc : Env → Res D} {pos : Pos}
theorem re_add (ha : RE X W .R a fa) (hb : RE X W .R b fb) : RE X W .S (.BinOp a .Add b pos) (fun r => fa r >>= fun x => fb r >>= fun y => addD x y) := re_op op_addA add_ok ne_add ha hb
theorem re_sub (ha : RE X W .R a fa) (hb : RE X W .R b fb) : RE X W .S (.BinOp a .Sub b pos) (fun r => fa r >>= fun x => fb r >>= fun y => subD x y) := re_op op_sub sub_ok ne_sub ha hb
theorem re_mul (ha : RE X W .R a fa) (hb : RE X W .R b fb) : RE X W .S (.BinOp a .Mult b pos) (fun r => fa r >>= fun x => fb r >>= fun y => mulD x y) := re_op op_mulA mul_ok ne_mul ha hb
theorem re_mod (ha : RE X W .R a fa) (hb : RE X W .R b fb) : RE X W .S (.BinOp a .Mod b pos) (fun r => fa r >>= fun x => fb r >>= fun y => modD x y) := re_op op_mod mod_ok ne_mod ha hb
theorem re_div (ha : RE X W .R a fa) (hb : RE X W .R b fb) : RE X W .S (.BinOp a .FloorDiv b pos) (fun r => fa r >>= fun x => fb r >>= fun y => divD x y) := re_op op_fdivW div_ok ne_div ha hb
noncomputable def ltD : D → D → Res D := cmpD fun i j => decide (i < j)
noncomputable def leD : D → D → Res D := cmpD fun i j => decide (i ≤ j)
noncomputable def gtD : D → D → Res D := cmpD fun i j => decide (j < i)
noncomputable def geD : D → D → Res D := cmpD fun i j => decide (j ≤ i)
noncomputable def asB : D → Res Bool
  | .bl b => .ok b
  | _ => .bad
/-- what a comparison by its sign is worth -/
structure Cmp (X : Cx) (o : CmpOp) (op : D → D → Res D) : Prop where
  ex : ∃ rr : R2, OpR X (compareOp o) rr ∧ OpD (gOf X) rr .R .R .S op
  ne : NoEr2 op
theorem c_lt : Cmp X .Lt ltD := ⟨⟨_, op_lt, cmp_ok⟩, ne_cmp⟩
theorem c_le : Cmp X .LtE leD := ⟨⟨_, op_le, cmp_ok⟩, ne_cmp⟩
theorem c_gt : Cmp X .Gt gtD := ⟨⟨_, op_gt, cmp_ok⟩, ne_cmp⟩
theorem c_ge : Cmp X .GtE geD := ⟨⟨_, op_ge, cmp_ok⟩, ne_cmp⟩
theorem units65 (hr : Room k X.A) : X.A.units + 65 < cLine := by have := hr.un; omega
theorem re_cp {o : CmpOp} {op : D → D → Res D} (C : Cmp X o op) (ha : RE X W .R a fa) (hb : RE X W .R b fb) (hm : behindInMarks o b = false := by first | exact nomark _ | rfl) : RE X W .S (.Compare a [o] [b] pos) (fun r => fa r >>= fun x => fb r >>= fun y => op x y) :=
  let ⟨_, h1, h2⟩ := C.ex
  re_cmp h1 h2 C.ne ha hb hm
theorem asB_er {d e : D} (h : asB d = .er e) : False := by unfold asB at h; split at h <;> cases h
/-- a truth as a test -/
theorem tB_of {t : TE} {f : Env → Res D} {G : GC} (σ : L2.St) (H : Hp) (Q : Bool → Hp → Prop) (i : ∀ R : VK, tE G W .S f σ H R → t σ H R) (h : tT G W (fun r => f r >>= asB) σ H Q) : tTest t σ H Q := by
  obtain ⟨H0, F0, fp, F, r, m, o⟩ := h
  refine i _ ⟨H0, F0, fp, F, r, m, o.bind fun F' H' d gr o2 v kv => ?_⟩
  cases e : asB d with
  | ok b =>
    rw [e] at o2
    unfold asB at e
    split at e <;> cases e
    cases kv
    exact ⟨b, rfl, o2 F' H' (Grow.refl gr.sub)⟩
  | er x => exact (asB_er e).elim
  | bad => rw [e] at o2; exact o2.elim
theorem rt_cp {o : CmpOp} {op : D → D → Res D} (C : Cmp X o op) (ha : RE X W .R a fa) (hb : RE X W .R b fb) (hm : behindInMarks o b = false := by first | exact nomark _ | rfl) : RT X W (.Compare a [o] [b] pos) (fun r => (fa r >>= fun x => fb r >>= fun y => op x y) >>= asB) :=
  let ⟨_, h1, h2⟩ := C.ex
  (pt_cmpR h1 ha hb hm).imp fun σ H Q h => tB_of σ H Q (fun R t => t_op h2 C.ne σ H R t) h
/-- an expression that is True or False as a test -/
theorem rt_val (ha : RE X W .S a fa) (he : ∀ whole, isTrue a X.env whole = (do let v ← whole; standAt a.pos; holding [v] (truthy v)) := by intro _; rfl) : RT X W a (fun r => fa r >>= asB) :=
  (pt_val ha he).imp fun σ H Q h => tB_of σ H Q (fun R t => t) h
theorem rt_not {f : Env → Res Bool} (ha : RT X W a f) : RT X W (.UnaryOp .Not a pos) (fun r => f r >>= fun t => .ok (!t)) :=
  (pt_not ha).imp fun σ H Q ⟨H0, F0, fp, F, r, m, o⟩ => ⟨H0, F0, fp, F, r, m, o.bind fun F' H' t gr o2 => o2 F' H' (Grow.refl gr.sub)⟩
noncomputable abbrev RW (X : Cx) (W : Wi) (e : Expr) (f : Env → Res Bool) : Prop := PW X e (tT (gOf X) W f)
theorem rt_pw {f : Env → Res Bool} (h : RW X W a f) : RT X W a f := h.pt
theorem rw_or1 {f : Env → Res Bool} (ha : RT X W a f) : RW X W (.BoolOp .Or [a] pos) f := pw_or1 ha
theorem rw_or {rest : List Expr} {f g : Env → Res Bool} (ha : RT X W a f) (hb : RW X W (.BoolOp .Or (b :: rest) pos) g) : RW X W (.BoolOp .Or (a :: b :: rest) pos) (fun r => f r >>= fun t => if t = true then .ok true else g r) :=
  (pw_or ha hb).imp fun σ H Q ⟨H0, F0, fp, F, r, m, o⟩ => ⟨H0, F0, fp, F, r, m, o.bind fun F' H' t gr o2 => by
    cases t with
    | true => exact o2 F' H' (Grow.refl gr.sub)
    | false => exact ⟨H0, F0, fp, F', r, m.grow gr, o2⟩⟩
theorem re_one {op : BoolOp} (h : RE X W .S a fa) : RE X W .S (.BoolOp op [a] pos) fa := pe_one h
theorem re_and {rest : List Expr} (ha : RE X W .S a fa) (hb : RE X W .S (.BoolOp .And (b :: rest) pos) fb) : RE X W .S (.BoolOp .And (a :: b :: rest) pos) (fun r => (fa r >>= asB) >>= fun t => if t = true then fb r else .ok (.bl false)) :=
  (pe_and ha hb).imp fun σ H Q ⟨H0, F0, fp, F, r, m, o⟩ => by
    have z := tB_of (t := tE (gOf X) W .S fa) (f := fa) σ H (fun t H1 => if t = true then tE (gOf X) W .S fb σ H1 Q else Q (.bl false) H1) (fun R t => t) ⟨H0, F0, fp, F, r, m, o.bind fun F' H' t gr o2 => by
      cases t with
      | true => rw [if_pos rfl] at o2 ⊢; exact ⟨H0, F0, fp, F', r, m.grow gr, o2.imp fun F2 H2 d g2 p v kv => p v kv⟩
      | false => exact o2 F' H' (Grow.refl gr.sub) _ (Rep.bl false)⟩
    exact z
theorem re_not (ha : RE X W .S a fa) : RE X W .S (.UnaryOp .Not a pos) (fun r => (fa r >>= asB) >>= fun t => .ok (.bl (!t))) :=
  (pe_not ha).imp fun σ H Q ⟨H0, F0, fp, F, r, m, o⟩ => by
    have z := tB_of (t := tE (gOf X) W .S fa) (f := fa) σ H (fun t H1 => Q (.bl (!t)) H1) (fun R t => t) ⟨H0, F0, fp, F, r, m, o.bind fun F' H' t gr o2 => o2 F' H' (Grow.refl gr.sub) _ (Rep.bl _)⟩
    exact z
@[simp] noncomputable def negD : D → Res D
  | .int i => .ok (.int (-i))
  | _ => .bad
theorem re_neg (ha : RE X W .R a fa) : RE X W .S (.UnaryOp .USub a pos) (fun r => fa r >>= negD) :=
  (pe_un un_neg ha).imp fun σ H Q ⟨H0, F0, fp, F, r, m, o⟩ => ⟨H0, F0, fp, F, r, m, o.bind fun F' H' d gr o2 v kv => by
    cases d with
    | int i => exact ⟨i, RdD.int kv, o2 F' H' (Grow.refl gr.sub) _ (Rep.int _)⟩
    | _ => exact o2.elim⟩
end
end Mir
namespace Mir
open PySem PySem.Spec PyProof.Rows L2
variable [Tn]
noncomputable def ixS : D → D → Res D
  | .lst xs, .int i => match atI xs i with
    | some d => .ok d
    | none => .bad
  | .tup xs, .int i => match atI xs i with
    | some d => .ok d
    | none => .bad
  | .scr ns, .int i => match atI ns i with
    | some n => .ok (.int n)
    | none => .bad
  | .str z, .int i => if z.length ≤ lim then (match atI z.cps.toList i with
    | some c => .ok (.str ⟨#[c]⟩)
    | none => .bad) else .bad
  | _, _ => .bad
theorem atI_rep {G : GC} {F : Hp} {vs : List V} {ds : List D} {i : Int} {d : D} (r : RepAll G F vs ds) (h : atI ds i = some d) : ∃ v, atI vs i = some v ∧ Rep G F v d := by
  unfold atI at h ⊢
  rw [r.length]
  cases e : ixN ds.length i with
  | none => rw [e] at h; cases h
  | some j =>
    rw [e] at h
    exact r.get h
theorem atI_map {ns : List Int} {i n : Int} (h : atI ns i = some n) : atI (ns.map V.int) i = some (.int n) := by
  unfold atI at h ⊢
  rw [List.length_map]
  cases e : ixN ns.length i with
  | none => rw [e] at h; cases h
  | some j =>
    rw [e] at h
    show (ns.map V.int)[j]? = _
    rw [List.getElem?_map, show ns[j]? = some n from h]
    rfl
section
variable {X : Cx} {W : Wi} {k : Nat} {a b c e : Expr} {es : List Expr} {fa fb fc fe : Env → Res D} {p pos apos cpos : Pos}
theorem ix_ok : OpD (gOf X) (rIx X.K) .R .R .S ixS := fun F H x y a b d Q Ha Hb s ka kb e k => by
  have ka : RdD (gOf X) F H x a := ka
  have kb : RdD (gOf X) F H y b := kb
  unfold ixS at e
  split at e
  · split at e <;> cases e
    rename_i h
    obtain ⟨q, vs, rfl, h1, r1⟩ := ka.lst s
    obtain ⟨v, hv, rv⟩ := atI_rep r1 h
    exact .inl ⟨q, vs, _, v, rfl, kb.int, .of h1, hv, k _ F H (Grow.refl s) rv⟩
  · split at e <;> cases e
    rename_i h
    obtain ⟨q, vs, rfl, h1, r1⟩ := ka.tup s
    obtain ⟨v, hv, rv⟩ := atI_rep r1 h
    exact .inr (.inl ⟨q, vs, _, v, rfl, kb.int, h1, hv, k _ F H (Grow.refl s) rv⟩)
  · split at e <;> cases e
    rename_i h
    obtain ⟨q, rfl, h1⟩ := ka.scr s
    exact .inl ⟨q, _, _, _, rfl, kb.int, h1, atI_map h, k _ F H (Grow.refl s) (.int _)⟩
  · split at e
    · rename_i hl
      split at e <;> cases e
      rename_i h
      exact .inr (.inr ⟨_, _, _, ka.str, kb.int, Nat.le_trans hl lim_le, h, k _ F H (Grow.refl s) (.str _)⟩)
    · cases e
  · cases e
theorem ne_ix : NoEr2 ixS := fun a b e z => by
  unfold ixS at z
  split at z
  · split at z <;> cases z
  · split at z <;> cases z
  · split at z <;> cases z
  · split at z
    · split at z <;> cases z
    · cases z
  · cases z
noncomputable def cutD (xs : List D) (lo hi : Option Int) : List D := (xs.drop (HT.sIx xs.length 0 lo)).take (HT.sIx xs.length xs.length hi - HT.sIx xs.length 0 lo)
@[simp] noncomputable def asI : D → Res Int
  | .int i => .ok i
  | _ => .bad
noncomputable def sliceD (d : D) (lo hi : Option Int) : Res D := match d with
  | .lst xs => .ok (.lst (cutD xs lo hi))
  | .tup xs => .ok (.tup (cutD xs lo hi))
  | .str z => if z.length ≤ lim then .ok (.str (cutS z lo hi)) else .bad
  | _ => .bad
theorem RepAll.cut {G : GC} {F : Hp} {vs : List V} {ds : List D} (r : RepAll G F vs ds) (lo hi : Option Int) : RepAll G F (cutV vs lo hi) (cutD ds lo hi) := by
  unfold cutV cutD
  rw [r.length]
  exact (r.drop _).take _
/-- a part of a slice -/
noncomputable def tP (G : GC) (W : Wi) (f : Env → Res (Option Int)) : TO := fun σ H Q => ∃ H0 F0 fp F r, MS G W.J H0 F0 fp F σ H r ∧ Out G W σ F H (fun F' H' o => Q o H') (f r)
noncomputable abbrev RP (X : Cx) (W : Wi) (e : Option Expr) (f : Env → Res (Option Int)) : Prop := PO X e (tP (gOf X) W f)
theorem PO.imp {X : Cx} {e : Option Expr} {t t' : TO} (h : PO X e t) (i : ∀ σ H Q, t' σ H Q → t σ H Q) : PO X e t' := ⟨fun pins s σ H Q I hw => h.run pins s σ H Q I (i σ H Q hw)⟩
theorem rp_none : RP X W none (fun _ => .ok none) := PO.imp po_none fun σ H Q ⟨H0, F0, fp, F, r, m, o⟩ => o F H (Grow.refl m.sub)
theorem rp_some (he : RE X W .R e fe) : RP X W (some e) (fun r => fe r >>= fun d => asI d >>= fun i => .ok (some i)) := PO.imp (po_some he) fun σ H Q ⟨H0, F0, fp, F, r, m, o⟩ => ⟨H0, F0, fp, F, r, m, o.bind fun F' H' d gr o2 v kv => by
  cases d with
  | int i => exact ⟨i, RdD.int kv, o2 F' H' (Grow.refl gr.sub)⟩
  | _ => exact o2.elim⟩
noncomputable def rSlAll (K : PySem.W.Frag) : V → Option Int → Option Int → Hp → VK → Prop := fun x lo hi H Q => rSlL K x lo hi H Q ∨ (rSlA K x lo hi H Q ∨ ∃ z, x = .str z ∧ z.length ≤ sizeLine ∧ Q (.str (cutS z lo hi)) H)
theorem t_slice {f1 f2 : Env → Res (Option Int)} {Kk : Kd} {op : D → Option Int → Option Int → Res D} (ne : ∀ d lo hi e, op d lo hi ≠ .er e) {rr : V → Option Int → Option Int → Hp → VK → Prop}
    (ok : ∀ F H x a lo hi d (Q : VK), Same F H → RdD (gOf X) F H x a → op a lo hi = .ok d → (∀ v F' H', Grow F H F' H' → Kk.Rep (gOf X) H F' H' v d → Q v H') → rr x lo hi H Q)
    (σ : L2.St) (H : Hp) (Q : VK) (t : tE (gOf X) W Kk (fun r => fa r >>= fun d => f1 r >>= fun lo => f2 r >>= fun hi => op d lo hi) σ H Q) : tSl rr (tE (gOf X) W .R fa) (tP (gOf X) W f1) (tP (gOf X) W f2) σ H Q := by
  obtain ⟨H0, F0, fp, F, r, m, o⟩ := t
  refine ⟨H0, F0, fp, F, r, m, o.bind fun F1 H1 d g1 o1 v kv => ⟨H0, F0, fp, F1, r, m.grow g1, o1.bind fun F2 H2 lo g2 o2 => ⟨H0, F0, fp, F2, r, (m.grow g1).grow g2, o2.bind fun F3 H3 hi g3 o3 => ?_⟩⟩⟩
  cases e : op d lo hi with
  | ok d' =>
    rw [e] at o3
    exact ok F3 H3 v d lo hi d' Q g3.sub (RdD.grow (show RdD (gOf X) F1 H1 v d from kv) (g2.trans g3)) e fun v' F' H' g q => o3 F' H' g v' (q.later (g1.h.trans (g2.h.trans g3.h)).fre)
  | er x => exact (ne _ _ _ _ e).elim
  | bad => rw [e] at o3; exact o3.elim
theorem re_slice {f1 f2 : Env → Res (Option Int)} {lo hi : Option Expr} {p2 : Pos} (ha : RE X W .R a fa) (hl : RP X W lo f1) (hh : RP X W hi f2) : RE X W .S (.Subscript a (.Slice lo hi none p2) pos) (fun r => fa r >>= fun d => f1 r >>= fun lo => f2 r >>= fun hi => sliceD d lo hi) :=
  (pe_slice (r := rSlAll X.K) (sl_list.or (sl_tupA.or sl_str)) ha hl hh).imp (t_slice (fun d lo hi e z => by unfold sliceD at z; split at z <;> (try split at z) <;> cases z) fun F H x a lo hi d Q s ka e k => by
    unfold sliceD at e
    split at e
    · cases e
      obtain ⟨q, vs, rfl, h1, r1⟩ := ka.lst s
      exact .inl ⟨q, vs, rfl, .of h1, fun t ht => k _ _ _ (Grow.mk1 s ht) (Rep.lst upd_same ((r1.cut lo hi).mono (Grow.mk1 s ht).f))⟩
    · cases e
      obtain ⟨q, vs, rfl, h1, r1⟩ := ka.tup s
      refine .inr (.inl ⟨q, vs, rfl, h1, fun w => ?_, fun _ t ht => k _ _ _ (Grow.mk1 s ht) (Rep.tup (.of upd_same) ((r1.cut lo hi).mono (Grow.mk1 s ht).f))⟩)
      rename_i ds
      have e : cutD ds lo hi = ds := by
        unfold cutD
        rw [r1.length] at w
        rw [w.1, w.2]
        simp
      rw [e] at k
      exact k _ F H (Grow.refl s) ka.tupS
    · split at e <;> cases e
      rename_i h
      exact .inr (.inr ⟨_, ka.str, Nat.le_trans h lim_le, k _ F H (Grow.refl s) (.str _)⟩)
    · cases e)
theorem re_tup {x1} {f : Env → Res (List D)} (ha : RA X W es f) : RE X W .S (.Tuple es x1 pos) (fun r => f r >>= fun ds => if ds.length ≤ lim then .ok (.tup ds) else .bad) :=
  (pe_tup ha).imp fun σ H Q ⟨H0, F0, fp, F, r, m, o⟩ => ⟨H0, F0, fp, F, r, m, o.bind fun F' H' ds gr o2 vs rv => by
    split at o2
    · rename_i h
      exact ⟨Nat.le_trans (by rw [rv.length]; exact h) lim_le, fun t ht => o2 _ _ (Grow.mk1 gr.sub ht) _ (Rep.tup (.of upd_same) (rv.mono (Grow.mk1 gr.sub ht).f))⟩
    · exact o2.elim⟩
theorem re_lst {f : Env → Res (List D)} (ha : RA X W es f) : RE X W (.O .flat) (.List es pos) (fun r => f r >>= fun ds => if ds.length ≤ lim then .ok (.lst ds) else .bad) :=
  (pe_lst ha).imp fun σ H Q ⟨H0, F0, fp, F, r, m, o⟩ => ⟨H0, F0, fp, F, r, m, o.bind fun F' H' ds gr o2 vs rv => by
    split at o2
    · rename_i h
      exact ⟨Nat.le_trans (by rw [rv.length]; exact h) lim_le, fun t ht => o2 _ _ (Grow.own gr.sub ht) _ ⟨[t], Own.lst rfl upd_same (gr.sub.free ht) (OwnAll.of_rep rv) (by simp), fun a ha => by rw [List.mem_singleton.mp ha]; exact gr.h.free ht⟩⟩
    · exact o2.elim⟩
end
end Mir
namespace Mir
open PySem PySem.Spec PyProof.Rows L2
variable [Tn]
inductive RdAll (G : GC) (F H : Hp) : List V → List D → Prop
  | nil : RdAll G F H [] []
  | cons {v : V} {d : D} {vs : List V} {ds : List D} : RdD G F H v d → RdAll G F H vs ds → RdAll G F H (v :: vs) (d :: ds)
noncomputable def tAR (G : GC) (W : Wi) (f : Env → Res (List D)) : TA := fun σ H Q => ∃ H0 F0 fp F r, MS G W.J H0 F0 fp F σ H r ∧ Out G W σ F H (fun F' H' ds => ∀ vs, RdAll G F' H' vs ds → Q vs H') (f r)
/-- arguments to be read -/
noncomputable abbrev RAR (X : Cx) (W : Wi) (es : List Expr) (f : Env → Res (List D)) : Prop := PA X es (tAR (gOf X) W f)
noncomputable def CalD (G : GC) (rr : List V → Hp → VK → Prop) (k : Kd) (op : List D → Res D) : Prop := ∀ (F H : Hp) (vs : List V) (ds : List D) (d : D) (Q : VK), Same F H → RdAll G F H vs ds → op ds = .ok d → (∀ v F' H', Grow F H F' H' → k.Rep G H F' H' v d → Q v H') → rr vs H Q
noncomputable def NoErL (op : List D → Res D) : Prop := ∀ ds e, op ds ≠ .er e
/-- a built-in by its name -/
structure BlM (X : Cx) (x : Str) (k : Kd) (op : List D → Res D) : Prop where
  mg : X.mg x = none
  ex : ∃ rr : List V → Hp → VK → Prop, CalD (gOf X) rr k op ∧ ((∃ id, bootBuiltins x = some (.builtin id) ∧ CallR X (.builtin id) rr) ∨ ∃ T, bootBuiltins x = some (.type T) ∧ CallR X (.type T) rr)
  ne : NoErL op
  n1 : x ≠ "__name__"
  n2 : (x == ("__debug__" : Str)) = false
section
variable {X : Cx} {W : Wi} {k : Kd} {e : Expr} {es : List Expr} {fe : Env → Res D} {p pos : Pos}
theorem rar_nil : RAR X W [] (fun _ => .ok []) := pa_nil.imp fun σ H Q ⟨H0, F0, fp, F, r, m, o⟩ => o F H (Grow.refl m.sub) [] .nil
theorem RdAll.grow {G : GC} {F H F' H' : Hp} (g : Grow F H F' H') : ∀ {vs : List V} {ds : List D}, RdAll G F H vs ds → RdAll G F' H' vs ds
  | _, _, .nil => .nil
  | _, _, .cons r t => .cons (r.grow g) (RdAll.grow g t)
theorem rar_cons {g : Env → Res (List D)} (he : RE X W .R e fe) (hr : RAR X W es g) (hs : starEach (e :: es) X.env = (false, eval e X.env) :: starEach es X.env := by rfl) :
    RAR X W (e :: es) (fun r => fe r >>= fun d => g r >>= fun ds => .ok (d :: ds)) :=
  (pa_cons he hr hs).imp fun σ H Q ⟨H0, F0, fp, F, r, m, o⟩ => ⟨H0, F0, fp, F, r, m, o.bind fun F1 H1 d g1 o1 v kv =>
    ⟨H0, F0, fp, F1, r, m.grow g1, o1.bind fun F2 H2 ds g2 o2 vs rv => o2 F2 H2 (Grow.refl g2.sub) (v :: vs) (.cons (RdD.grow kv g2) rv)⟩⟩
theorem t_bl {rr : List V → Hp → VK → Prop} {op : List D → Res D} (h : CalD (gOf X) rr k op) (ne : NoErL op) {fa : Env → Res (List D)} (σ : L2.St) (H : Hp) (Q : VK) (t : tE (gOf X) W k (fun r => fa r >>= op) σ H Q) : tCB rr (tAR (gOf X) W fa) σ H Q := by
  obtain ⟨H0, F0, fp, F, r, m, o⟩ := t
  refine ⟨H0, F0, fp, F, r, m, o.bind fun F' H' ds gr o2 vs rv => ?_⟩
  cases z : op ds with
  | ok d =>
    rw [z] at o2
    exact h F' H' vs ds d Q gr.sub rv z fun v F2 H2 g kv => o2 F2 H2 g v (kv.later gr.h.fre)
  | er x => exact (ne _ _ z).elim
  | bad => rw [z] at o2; exact o2.elim
theorem re_blt {x : Str} {op : List D → Res D} {fa : Env → Res (List D)} (B : BlM X x k op) (ha : RAR X W (e :: es) fa) (hg : Gl X x := by rfl) (he : starEach (e :: es) X.env = (false, eval e X.env) :: starEach es X.env := by rfl) (hpl : (backTo pos (starEach es X.env)).any (·.1) = false := by rfl) :
    RE X W k (.Call (.Name x p) (e :: es) [] pos) (fun r => fa r >>= op) := by
  obtain ⟨rr, hc, ⟨id, hv, hr⟩ | ⟨T, hv, hr⟩⟩ := B.ex
  · exact (pe_callB hr hg B.mg hv ha B.n1 B.n2 he hpl).imp (t_bl hc B.ne)
  · exact (pe_callTy hr hg B.mg hv ha B.n1 B.n2 he hpl).imp (t_bl hc B.ne)
theorem BlM.b {x : Str} {id : String} {rr : List V → Hp → VK → Prop} {op : List D → Res D} (hm : X.mg x = none) (hv : bootBuiltins x = some (.builtin id)) (hr : CallR X (.builtin id) rr) (ne : NoErL op) (c : CalD (gOf X) rr k op) (n1 : x ≠ "__name__" := by decide) (n2 : (x == ("__debug__" : Str)) = false := by decide) : BlM X x k op :=
  ⟨hm, ⟨rr, c, .inl ⟨id, hv, hr⟩⟩, ne, n1, n2⟩
theorem BlM.t {x : Str} {T : String} {rr : List V → Hp → VK → Prop} {op : List D → Res D} (hm : X.mg x = none) (hv : bootBuiltins x = some (.type T)) (hr : CallR X (.type T) rr) (ne : NoErL op) (c : CalD (gOf X) rr k op) (n1 : x ≠ "__name__" := by decide) (n2 : (x == ("__debug__" : Str)) = false := by decide) : BlM X x k op :=
  ⟨hm, ⟨rr, c, .inr ⟨T, hv, hr⟩⟩, ne, n1, n2⟩
@[simp] noncomputable def one (f : D → Res D) : List D → Res D
  | [d] => f d
  | _ => .bad
@[simp] noncomputable def two (f : D → D → Res D) : List D → Res D
  | [d, e] => f d e
  | _ => .bad
noncomputable def noEr1 (f : D → Res D) : Prop := ∀ d e, f d ≠ .er e
theorem ne_one {f : D → Res D} (h : noEr1 f) : NoErL (one f) := fun ds e z => by
  unfold one at z
  split at z
  · exact h _ _ z
  · cases z
theorem ne_two {f : D → D → Res D} (h : NoEr2 f) : NoErL (two f) := fun ds e z => by
  unfold two at z
  split at z
  · exact h _ _ _ z
  · cases z
theorem cal_one {G : GC} {rr : List V → Hp → VK → Prop} {f : D → Res D} (h : ∀ (F H : Hp) (x : V) (a d : D) (Q : VK), Same F H → RdD G F H x a → f a = .ok d → (∀ v F' H', Grow F H F' H' → k.Rep G H F' H' v d → Q v H') → rr [x] H Q) : CalD G rr k (one f) := fun F H vs ds d Q s r e q => by
  unfold one at e
  split at e
  · cases r with
    | cons r1 rn =>
      cases rn
      exact h F H _ _ d Q s r1 e q
  · cases e
theorem cal_two {G : GC} {rr : List V → Hp → VK → Prop} {f : D → D → Res D} (h : ∀ (F H : Hp) (x y : V) (a b d : D) (Q : VK), Same F H → RdD G F H x a → RdD G F H y b → f a b = .ok d → (∀ v F' H', Grow F H F' H' → k.Rep G H F' H' v d → Q v H') → rr [x, y] H Q) : CalD G rr k (two f) := fun F H vs ds d Q s r e q => by
  unfold two at e
  split at e
  · cases r with
    | cons r1 rn =>
      cases rn with
      | cons r2 rn =>
        cases rn
        exact h F H _ _ _ _ d Q s r1 r2 e q
  · cases e
@[simp] noncomputable def tupleD : D → Res D
  | .lst xs => .ok (.tup xs)
  | .tup xs => .ok (.tup xs)
  | _ => .bad
@[simp] noncomputable def listD : D → Res D
  | .lst xs => .ok (.lst xs)
  | .tup xs => .ok (.lst xs)
  | _ => .bad
theorem b_tuple (hm : X.mg "tuple" = none) : BlM X "tuple" .S (one tupleD) := BlM.t hm boot_tuple (call_tuple_of) (ne_one fun d e z => by unfold tupleD at z; split at z <;> cases z) (cal_one fun F H x a d Q s ra e q => by
  unfold tupleD at e
  split at e <;> cases e
  · obtain ⟨p, vs, rfl, h1, r1⟩ := ra.lst s
    exact ⟨p, vs, rfl, .inl ⟨.of h1, fun t ht => q _ _ _ (Grow.mk1 s ht) (Rep.tup (.of upd_same) (r1.mono (Grow.mk1 s ht).f))⟩⟩
  · obtain ⟨p, vs, rfl, h1, r1⟩ := ra.tup s
    exact ⟨p, vs, rfl, .inr ⟨h1, q _ F H (Grow.refl s) ra.tupS⟩⟩)
theorem b_list (hm : X.mg "list" = none) : BlM X "list" (.O .flat) (one listD) := BlM.t hm boot_list (call_list_of) (ne_one fun d e z => by unfold listD at z; split at z <;> cases z) (cal_one fun F H x a d Q s ra e q => by
  unfold listD at e
  split at e <;> cases e
  · obtain ⟨p, vs, rfl, h1, r1⟩ := ra.lst s
    exact ⟨p, vs, rfl, .inl (.of h1), fun t ht => q _ _ _ (Grow.own s ht) ⟨[t], Own.lst rfl upd_same (s.free ht) (OwnAll.of_rep r1) (by simp), fun a ha => by rw [List.mem_singleton.mp ha]; exact ht⟩⟩
  · obtain ⟨p, vs, rfl, h1, r1⟩ := ra.tup s
    exact ⟨p, vs, rfl, .inr h1, fun t ht => q _ _ _ (Grow.own s ht) ⟨[t], Own.lst rfl upd_same (s.free ht) (OwnAll.of_rep r1) (by simp), fun a ha => by rw [List.mem_singleton.mp ha]; exact ht⟩⟩)
noncomputable def asInts : List D → Option (List Int)
  | [] => some []
  | .int i :: ds => (asInts ds).map (i :: ·)
  | _ :: _ => none
noncomputable def sumD : D → Res D
  | .scr ns => .ok (.int ns.sum)
  | .lst ds => match asInts ds with
    | some ns => .ok (.int ns.sum)
    | none => .bad
  | _ => .bad
theorem boot_all' : bootBuiltins "all" = some (.builtin "all") := by decide +kernel
end
end Mir
namespace Mir
open PySem PySem.Spec PyProof.Rows L2
variable [Tn]
section
variable {G : GC} {J : L2.St → Prop} {H0 F0 F H : Hp} {fp : Nat → List Addr} {σ : L2.St} {r : Env}
theorem MS.lst (m : MS G J H0 F0 fp F σ H r) {i : Nat} {ds : List D} (h : r[i]? = some (.ow .flat (.lst ds))) : ∃ a vs, σ[i]? = some (some (.ref a)) ∧ H a = some (.lst vs) ∧ RepAll G F vs ds ∧ fp i = [a] := by
  obtain ⟨⟨v, h1, h2⟩, _⟩ := m.ow i _ _ h
  generalize fp i = A at h2
  cases h2 with
  | lst _ e _ ra na =>
    obtain ⟨rfl, rr⟩ := ra.to_rep
    exact ⟨_, _, h1, e, rr, rfl⟩
/-- an owned list is changed -/
theorem MS.lstUpd (m : MS G J H0 F0 fp F σ H r) {i : Nat} {ds ds' : List D} {a : Addr} {vs' : List V} (h : r[i]? = some (.ow .flat (.lst ds))) (hv : σ[i]? = some (some (.ref a))) (hf : fp i = [a]) (rr : RepAll G F vs' ds') :
    ∃ fp', MS G J H0 F0 fp' F σ (upd H a (.lst vs')) (r.set i (.ow .flat (.lst ds'))) := by
  obtain ⟨⟨v, h1, h2⟩, _⟩ := m.ow i _ _ h
  have fa := (h2.there a (by rw [hf]; simp)).1
  exact m.write (A := [a]) h hv (by rw [hf]; simp) (Own.lst rfl upd_same fa (OwnAll.of_rep rr) (by simp)) fun b hb => .inl (by rw [hf]; exact hb)
end
/-- the list that the i-th name owns -/
noncomputable def ownL (i : Nat) (r : Env) : Option (List D) := match r[i]? with
  | some (.ow .flat (.lst ds)) => some ds
  | _ => none
theorem ownL_some {i : Nat} {r : Env} {ds : List D} (h : ownL i r = some ds) : r[i]? = some (.ow .flat (.lst ds)) := by
  unfold ownL at h
  split at h
  · rename_i e; cases h; exact e
  · cases h
noncomputable def appG (i : Nat) (f : Env → Res D) (r : Env) : Oc := match ownL i r with
  | some ds => lift (f r) r fun d => if ds.length < lim then .nx (r.set i (.ow .flat (.lst (ds ++ [d])))) else .bad
  | none => .bad
noncomputable def extG (i : Nat) (f : Env → Res D) (r : Env) : Oc := match ownL i r with
  | some ds => lift (f r) r fun d => match d with
    | .lst es => if ds.length + es.length ≤ lim then .nx (r.set i (.ow .flat (.lst (ds ++ es)))) else .bad
    | _ => .bad
  | none => .bad
noncomputable def clrLG (i : Nat) (r : Env) : Oc := match ownL i r with
  | some _ => .nx (r.set i (.ow .flat (.lst [])))
  | none => .bad
section
variable {X : Cx} {W : Wi} {k : Kd} {e : Expr} {fe : Env → Res D} {pos apos cpos ps : Pos} {x : Str}
theorem rs_append (i : Nat) (he : RE X W .S e fe) (hN : X.N[i]? = some x := by rfl) (hv : Vis X.env.scope x := by first | exact Or.inl rfl | exact Or.inr (Or.inl rfl) | exact Or.inr (Or.inr rfl)) (hd : (x == ("__debug__" : Str)) = false := by decide)
    (hcd : (x == ("__classdict__" : Str)) = false := by decide) (hs : swapsWith (.Call (.Attribute (.Name x ps) "append" apos) [e] [] cpos) none pos.line X.env = pure false := by rfl)
    (hbase : attributeBase (.Name x ps) "append" X.env (eval (.Name x ps) X.env) = eval (.Name x ps) X.env := by rfl)
    (hfew : ((backTo cpos (starEach [e] X.env)).all (fun x => !x.1) && (backToKw cpos (keywordEach [] X.env)).all (fun x => x.1.isSome) && decide ([e].length + ([] : List Keyword).length + (if ([] : List Keyword).isEmpty then 0 else 1) < 30)) = true := by rfl)
    (hline : (apos.endLine == cpos.line) = true := by rfl) (hse : starEach [e] X.env = (false, eval e X.env) :: starEach [] X.env := by rfl) :
    RS X W k (.Expr (.Call (.Attribute (.Name x ps) "append" apos) [e] [] cpos) pos) (appG i fe) :=
  (ps_expr (pe_bm PySem.F.plainAttrs_list PySem.F.slot_list_append PySem.F.type_list_append mt_append (pe_var hN hv hd hcd) (pa_cons he pa_nil hse) hbase hfew hline hse (by rfl)) hs).imp fun D σ H ⟨H0, F0, fp, F, r, m, o⟩ => by
    unfold appG at o
    split at o
    · rename_i ds ho
      have hi := ownL_some ho
      obtain ⟨a, vs, h1, h2, h3, h4⟩ := m.lst hi
      refine ⟨.ref a, h1, Or.inl ⟨rfl, _, .of h2⟩, H0, F0, fp, F, r, m, o.lift m fun F' H' d gr o' v kv => ?_⟩
      split at o'
      · rename_i hl
        obtain ⟨fp', m'⟩ := (m.grow gr).lstUpd hi h1 h4 ((h3.mono gr.f).append (.cons kv .nil))
        exact ⟨a, vs, v, rfl, rfl, gr.h.at _ _ h2, Nat.lt_of_lt_of_le (by rw [h3.length]; exact hl) lim_le, o' fp' F' σ _ (Same.refl _) m'⟩
      · exact o'.elim
    · exact o.elim
theorem rs_extend (i : Nat) (he : RE X W .S e fe) (hN : X.N[i]? = some x := by rfl) (hv : Vis X.env.scope x := by first | exact Or.inl rfl | exact Or.inr (Or.inl rfl) | exact Or.inr (Or.inr rfl)) (hd : (x == ("__debug__" : Str)) = false := by decide)
    (hcd : (x == ("__classdict__" : Str)) = false := by decide) (hs : swapsWith (.Call (.Attribute (.Name x ps) "extend" apos) [e] [] cpos) none pos.line X.env = pure false := by rfl)
    (hbase : attributeBase (.Name x ps) "extend" X.env (eval (.Name x ps) X.env) = eval (.Name x ps) X.env := by rfl)
    (hfew : ((backTo cpos (starEach [e] X.env)).all (fun x => !x.1) && (backToKw cpos (keywordEach [] X.env)).all (fun x => x.1.isSome) && decide ([e].length + ([] : List Keyword).length + (if ([] : List Keyword).isEmpty then 0 else 1) < 30)) = true := by rfl)
    (hline : (apos.endLine == cpos.line) = true := by rfl) (hse : starEach [e] X.env = (false, eval e X.env) :: starEach [] X.env := by rfl) :
    RS X W k (.Expr (.Call (.Attribute (.Name x ps) "extend" apos) [e] [] cpos) pos) (extG i fe) :=
  (ps_expr (pe_bm PySem.F.plainAttrs_list PySem.F.slot_list_extend PySem.F.type_list_extend mt_extend (pe_var hN hv hd hcd) (pa_cons he pa_nil hse) hbase hfew hline hse (by rfl)) hs).imp fun D σ H ⟨H0, F0, fp, F, r, m, o⟩ => by
    unfold extG at o
    split at o
    · rename_i ds ho
      have hi := ownL_some ho
      obtain ⟨a, vs, h1, h2, h3, h4⟩ := m.lst hi
      refine ⟨.ref a, h1, Or.inl ⟨rfl, _, .of h2⟩, H0, F0, fp, F, r, m, o.lift m fun F' H' d gr o' v kv => ?_⟩
      split at o'
      · rename_i es
        split at o'
        · rename_i hl
          have kv' : Rep (gOf X) F' v (.lst es) := kv
          cases kv' with
          | @lst b ws _ hb rb =>
            obtain ⟨fp', m'⟩ := (m.grow gr).lstUpd hi h1 h4 ((h3.mono gr.f).append rb)
            exact ⟨a, b, vs, ws, rfl, rfl, gr.h.at _ _ h2, gr.sub _ _ hb, Nat.le_trans (by rw [h3.length, rb.length]; exact hl) lim_le, o' fp' F' σ _ (Same.refl _) m'⟩
        · exact o'.elim
      · exact o'.elim
    · exact o.elim
theorem rs_clearL (i : Nat) (hN : X.N[i]? = some x := by rfl) (hv : Vis X.env.scope x := by first | exact Or.inl rfl | exact Or.inr (Or.inl rfl) | exact Or.inr (Or.inr rfl)) (hd : (x == ("__debug__" : Str)) = false := by decide)
    (hcd : (x == ("__classdict__" : Str)) = false := by decide) (hs : swapsWith (.Call (.Attribute (.Name x ps) "clear" apos) [] [] cpos) none pos.line X.env = pure false := by rfl)
    (hbase : attributeBase (.Name x ps) "clear" X.env (eval (.Name x ps) X.env) = eval (.Name x ps) X.env := by rfl) (hline : (apos.endLine == cpos.line) = true := by rfl) :
    RS X W k (.Expr (.Call (.Attribute (.Name x ps) "clear" apos) [] [] cpos) pos) (clrLG i) :=
  (ps_expr (pe_bm0 PySem.F.plainAttrs_list PySem.F.slot_list_clear PySem.F.type_list_clear mt_clear (pe_var hN hv hd hcd) hbase hline) hs).imp fun D σ H ⟨H0, F0, fp, F, r, m, o⟩ => by
    unfold clrLG at o
    split at o
    · rename_i ds ho
      have hi := ownL_some ho
      obtain ⟨a, vs, h1, h2, h3, h4⟩ := m.lst hi
      obtain ⟨fp', m'⟩ := m.lstUpd hi h1 h4 RepAll.nil
      exact ⟨.ref a, h1, Or.inl ⟨rfl, _, .of h2⟩, a, vs, rfl, rfl, h2, o fp' F σ _ (Same.refl _) m'⟩
    · exact o.elim
theorem re_gInt {i : Int} {t : Tok} (hm : X.mg x = some (.int i t)) (hg : Gl X x := by rfl) (hd : (x == ("__debug__" : Str)) = false := by decide) : RE X W .S (.Name x pos) (fun _ => .ok (.int i)) := re_cst (pe_glob (v := .int i) hg hm ⟨t, rfl⟩ hd) fun _ => .int i
/-- a class of one's own -/
theorem re_cls {c : Nat} {C : Addr} (hm : X.mg x = some (.ref C)) (hx : x = cname c := by rfl) (hg : Gl X x := by rfl) (hd : (x == ("__debug__" : Str)) = false := by decide) : RE X W .S (.Name x pos) (fun _ => .ok (.cls c)) := by
  subst hx
  exact re_cst (pe_glob (v := .ref C) hg hm rfl hd) fun _ => .cls hm
/-- a built-in type as a value -/
theorem re_ty {T : String} (hm : X.mg x = none) (hv : bootBuiltins x = some (.type T)) (hg : Gl X x := by rfl) (hn : x ≠ "__name__" := by decide) (hd : (x == ("__debug__" : Str)) = false := by decide) : RE X W .S (.Name x pos) (fun _ => .ok (.ty T)) :=
  re_cst (pe_bltn (v := .ty T) hg hm hv rfl hn hd) fun _ => .ty T
end
end Mir
namespace Mir
open PySem PySem.Spec PyProof.Rows L2
variable [Tn]
theorem WalkD.of_walk {G : GC} {F B : Hp} {J : It} {ds : List D} {n : Nat} {g : Hp → Prop} {Y : Nat → Hp → V → Hp → Prop} (w : Walk J n g Y) (hn : n = ds.length) (hg : ∀ H, Same B H → g H)
    (hy : ∀ (i : Nat) F2 H2 x H3, i < ds.length → Same F F2 → Same F2 H2 → Same B H2 → Y i H2 x H3 → ∃ F3 d, Grow F2 H2 F3 H3 ∧ ds[i]? = some d ∧ Rep G F3 x d) : WalkD G F B J ds := by
  subst hn
  exact ⟨fun i H hi s => w.goes i H hi (hg H s), fun H s => w.stops H (hg H s), fun i F2 H2 x H3 hi s1 s2 s3 y => hy i F2 H2 x H3 hi s1 s2 s3 (w.yields i H2 x H3 hi (hg H2 s3) y)⟩
theorem WalkD.list {G : GC} {F B : Hp} {a : Addr} {vs : List V} {ds : List D} (h : B a = some (.lst vs)) (r : RepAll G F vs ds) : WalkD G F B (Itl G.K a) ds :=
  .of_walk walk_list r.length (fun H s => .of (s _ _ h)) fun i F2 H2 x H3 hi s1 s2 _ ⟨e1, e2⟩ => by
    subst e1
    obtain ⟨d, h1, h2⟩ := r.getV e2
    exact ⟨F2, d, Grow.refl s2, h1, h2.mono s1⟩
theorem WalkD.tup {G : GC} {F B : Hp} {a : Addr} {vs : List V} {ds : List D} (h : SqT G.K B a vs) (r : RepAll G F vs ds) : WalkD G F B (Itt G.K a) ds :=
  .of_walk walk_tup r.length (fun H s => Same.sqT s h) fun i F2 H2 x H3 hi s1 s2 _ ⟨e1, e2⟩ => by
    subst e1
    obtain ⟨d, h1, h2⟩ := r.getV e2
    exact ⟨F2, d, Grow.refl s2, h1, h2.mono s1⟩
theorem WalkD.scr {G : GC} {F B : Hp} {a : Addr} {ns : List Int} (h : SqL G.K B a (ns.map V.int)) : WalkD G F B (Itl G.K a) (ns.map D.int) :=
  .of_walk walk_list (by simp) (fun H s => s.seq h) fun i F2 H2 x H3 hi s1 s2 _ ⟨e1, e2⟩ => by
    subst e1
    rw [List.getElem?_map, Option.map_eq_some_iff] at e2
    obtain ⟨n, h1, h2⟩ := e2
    subst h2
    exact ⟨F2, .int n, Grow.refl s2, by rw [List.getElem?_map, h1]; rfl, .int n⟩
noncomputable def signsOf (z : Str) : List D := z.cps.toList.map fun c => D.str ⟨#[c]⟩
theorem WalkD.str {G : GC} {F B : Hp} {z : Str} : WalkD G F B (Its z) (signsOf z) :=
  .of_walk walk_str (by simp [signsOf]) (fun _ _ => trivial) fun i F2 H2 x H3 hi s1 s2 _ ⟨e1, c, e2, e3⟩ => by
    subst e1 e3
    refine ⟨F2, .str ⟨#[c]⟩, Grow.refl s2, ?_, .str _⟩
    unfold signsOf
    rw [List.getElem?_map, Array.getElem?_toList, e2]
    rfl
noncomputable def rangeL (lo : Int) (n : Nat) : List D := (List.range n).map fun i => D.int (lo + (i : Nat))
theorem WalkD.range {G : GC} {F B : Hp} {lo : Int} {n : Nat} : WalkD G F B (Itr lo n) (rangeL lo n) :=
  .of_walk walk_range (by simp [rangeL]) (fun _ _ => trivial) fun i F2 H2 x H3 hi s1 s2 _ ⟨e1, e2⟩ => by
    subst e1 e2
    refine ⟨F2, .int (lo + i), Grow.refl s2, ?_, .int _⟩
    have hi' : i < n := by simpa [rangeL] using hi
    unfold rangeL
    rw [List.getElem?_map, List.getElem?_range hi']
    rfl
@[simp] noncomputable def itemsS : D → Res (List D)
  | .lst xs => .ok xs
  | .tup xs => .ok xs
  | .scr ns => .ok (ns.map D.int)
  | .str z => .ok (signsOf z)
  | _ => .bad
section
variable {X : Cx} {W : Wi} {e tg : Expr} {fe : Env → Res D} {p pos tpos : Pos}
theorem re_iterS (he : RE X W .S e fe) : RI X W true tg e (fun r => fe r >>= itemsS) := by
  refine ⟨fun pins s σ H R I ⟨H0, F0, fp, F, r, m, o⟩ => ?_⟩
  have o : Out (gOf X) W σ F H _ (fe r >>= itemsS) := o
  cases ef : fe r with
  | er x => exact (pi_list he).run pins s σ H R I ⟨H0, F0, fp, F, r, m, by rw [ef] at o ⊢; exact o⟩
  | bad => rw [ef] at o; exact o.elim
  | ok d =>
    rw [ef] at o
    cases d with
    | lst ds => exact (pi_list he).run pins s σ H R I ⟨H0, F0, fp, F, r, m, by
        rw [ef]
        intro F' H' gr v kv
        have kv' : Rep (gOf X) F' v (.lst ds) := kv
        cases kv' with
        | lst h1 r1 => exact ⟨_, rfl, ⟨_, .of (gr.sub _ _ h1)⟩, o F' H' gr _ (WalkD.list h1 r1)⟩⟩
    | tup ds => exact (pi_tup he).run pins s σ H R I ⟨H0, F0, fp, F, r, m, by
        rw [ef]
        intro F' H' gr v kv
        have kv' : Rep (gOf X) F' v (.tup ds) := kv
        cases kv' with
        | tup h1 r1 => exact ⟨_, rfl, ⟨_, Same.sqT gr.sub h1⟩, o F' H' gr _ (WalkD.tup h1 r1)⟩⟩
    | scr ns => exact (pi_list he).run pins s σ H R I ⟨H0, F0, fp, F, r, m, by
        rw [ef]
        intro F' H' gr v kv
        have kv' : Rep (gOf X) F' v (.scr ns) := kv
        cases kv' with
        | scr h1 => exact ⟨_, rfl, ⟨_, gr.sub.seq h1⟩, o F' H' gr _ (WalkD.scr h1)⟩⟩
    | str z => exact (pi_str he).run pins s σ H R I ⟨H0, F0, fp, F, r, m, by
        rw [ef]
        intro F' H' gr v kv
        have kv' : Rep (gOf X) F' v (.str z) := kv
        cases kv'
        exact ⟨z, rfl, o F' H' gr _ WalkD.str⟩⟩
    | _ => exact o.elim
/-- range(n), range(m, n) in the sizes that are walked -/
noncomputable def rng1 : List D → Res (List D)
  | [.int n] => if -1000000000 ≤ n ∧ n ≤ 1000000000 then .ok (rangeL 0 n.toNat) else .bad
  | _ => .bad
noncomputable def rng2 : List D → Res (List D)
  | [.int m, .int n] => if (-1000000000 ≤ m ∧ m ≤ 1000000000) ∧ -1000000000 ≤ n ∧ n ≤ 1000000000 then .ok (rangeL m (n - m).toNat) else .bad
  | _ => .bad
theorem rng1_inv {ds : List D} : (∃ n, ds = [.int n] ∧ (-1000000000 ≤ n ∧ n ≤ 1000000000) ∧ rng1 ds = .ok (rangeL 0 n.toNat)) ∨ rng1 ds = .bad := by
  unfold rng1
  split
  · split
    · rename_i n h; exact .inl ⟨n, rfl, h, rfl⟩
    · exact .inr rfl
  · exact .inr rfl
theorem rng2_inv {ds : List D} : (∃ m n, ds = [.int m, .int n] ∧ ((-1000000000 ≤ m ∧ m ≤ 1000000000) ∧ -1000000000 ≤ n ∧ n ≤ 1000000000) ∧ rng2 ds = .ok (rangeL m (n - m).toNat)) ∨ rng2 ds = .bad := by
  unfold rng2
  split
  · split
    · rename_i m n h; exact .inl ⟨m, n, rfl, h, rfl⟩
    · exact .inr rfl
  · exact .inr rfl
theorem ri_range1 {b : Bool} {a : Expr} {fa : Env → Res (List D)} (hm : X.mg "range" = none) (ha : RAR X W [a] fa) (hg : Gl X "range" := by rfl) (hs : starEach [a] X.env = [(false, eval a X.env)] := by rfl) : RI X W b tg (.Call (.Name "range" p) [a] [] pos) (fun r => fa r >>= rng1) := by
  refine ⟨fun pins s σ H R I ⟨H0, F0, fp, F, r, m, o⟩ => (pi_range1 hg hm ha hs).run pins s σ H R I ⟨H0, F0, fp, F, r, m, o.bind fun F' H' ds gr o2 vs rv => ?_⟩⟩
  rcases rng1_inv (ds := ds) with ⟨n, rfl, hn, e⟩ | e
  · rw [e] at o2
    cases rv with
    | cons r1 rr =>
      cases rr
      exact ⟨n, by rw [RdD.int r1], by omega, by omega, o2 F' H' (Grow.refl gr.sub) _ WalkD.range⟩
  · rw [e] at o2; exact o2.elim
theorem ri_range2 {b : Bool} {a c : Expr} {fa : Env → Res (List D)} (hm : X.mg "range" = none) (ha : RAR X W [a, c] fa) (hg : Gl X "range" := by rfl) (hs : starEach [a, c] X.env = [(false, eval a X.env), (false, eval c X.env)] := by rfl) (hs2 : starEach [c] X.env = [(false, eval c X.env)] := by rfl) :
    RI X W b tg (.Call (.Name "range" p) [a, c] [] pos) (fun r => fa r >>= rng2) := by
  refine ⟨fun pins s σ H R I ⟨H0, F0, fp, F, r, m, o⟩ => (pi_range2 hg hm ha hs hs2).run pins s σ H R I ⟨H0, F0, fp, F, r, m, o.bind fun F' H' ds gr o2 vs rv => ?_⟩⟩
  rcases rng2_inv (ds := ds) with ⟨i, j, rfl, hn, e⟩ | e
  · rw [e] at o2
    cases rv with
    | cons r1 rr =>
      cases rr with
      | cons r2 rr =>
        cases rr
        exact ⟨i, j, by rw [RdD.int r1, RdD.int r2], by omega, o2 F' H' (Grow.refl gr.sub) _ WalkD.range⟩
  · rw [e] at o2; exact o2.elim
/-- what a block raises is not looked after -/
noncomputable def nE {α : Type} : Res α → Res α
  | .ok a => .ok a
  | _ => .bad
@[simp] theorem nE_ok {α : Type} (a : α) : nE (.ok a) = .ok a := rfl
theorem nE_some {α : Type} {x : Res α} {a : α} (h : nE x = .ok a) : x = .ok a := by
  cases x <;> first | exact h | cases h
noncomputable def lcD (g : D → Env → Res Env) (t : Env → Res Bool) (f : Env → Res D) (r : Env) : List D → Res (List D)
  | [] => .ok []
  | d :: ds => nE (g d r) >>= fun r1 => nE (t r1) >>= fun b => if b = true then nE (f r1) >>= fun x => lcD g t f r ds >>= fun xs => .ok (x :: xs) else lcD g t f r ds
@[simp] noncomputable def lstD (ds : List D) : Res D := if ds.length ≤ lim then .ok (.lst ds) else .bad
/-- the block's own names forgotten -/
noncomputable def wipeR (r : Env) : List Nat → Env
  | [] => r
  | v :: vs => (wipeR r vs).set v .un
theorem MS.wipe {G : GC} {J J' : L2.St → Prop} {H0 F0 F H : Hp} {fp : Nat → List Addr} {σ : L2.St} {r : Env} (m : MS G J H0 F0 fp F σ H r) : ∀ (vs : List Nat), J' (L2.wipe σ vs) → MS G J' H0 F0 fp F (L2.wipe σ vs) H (wipeR r vs)
  | vs, j => by
    have len : ∀ vs : List Nat, (wipeR r vs).length = r.length := fun vs => by
      induction vs with
      | nil => rfl
      | cons v vs ih => rw [wipeR, List.length_set, ih]
    have some1 : ∀ (vs : List Nat) {i : Nat} {s : Slot}, (wipeR r vs)[i]? = some s → s ≠ .un → r[i]? = some s ∧ i ∉ vs := fun vs => by
      induction vs with
      | nil => exact fun h _ => ⟨h, by simp⟩
      | cons v vs ih =>
        intro i s h ne
        rcases get_set_slot h with ⟨_, x, _⟩ | ⟨n, h⟩
        · exact absurd x.symm ne
        · obtain ⟨h1, h2⟩ := ih h ne
          exact ⟨h1, by simp only [List.mem_cons, not_or]; exact ⟨Ne.symm n, h2⟩⟩
    have keep : ∀ (vs : List Nat) {i : Nat}, i ∉ vs → (L2.wipe σ vs)[i]? = σ[i]? := fun vs => by
      induction vs with
      | nil => exact fun _ => rfl
      | cons v vs ih =>
        intro i h
        simp only [List.mem_cons, not_or] at h
        unfold L2.wipe
        rw [List.getElem?_set_ne (Ne.symm h.1)]
        exact ih h.2
    exact {
      jo := j
      s0 := m.s0
      t0 := m.t0
      f0 := m.f0
      sub := m.sub
      new := m.new
      len := by rw [len, m.len, wipe_length]
      sh := fun i d h => by
        obtain ⟨h1, h2⟩ := some1 vs h (by simp)
        rw [keep vs h2]
        exact m.sh i d h1
      ow := fun i s d h => by
        obtain ⟨h1, h2⟩ := some1 vs h (by simp)
        rw [keep vs h2]
        exact m.ow i s d h1
      ap := fun i k s t d e ne h1 h2 => m.ap i k s t d e ne (some1 vs h1 (by simp)).1 (some1 vs h2 (by simp)).1 }
theorem MS.mapJ {G : GC} {J J' : L2.St → Prop} {H0 F0 F H : Hp} {fp : Nat → List Addr} {σ : L2.St} {r : Env} (m : MS G J H0 F0 fp F σ H r) (j : J' σ) : MS G J' H0 F0 fp F σ H r := ⟨j, m.s0, m.f0, m.sub, m.new, m.len, m.sh, m.ow, m.ap, m.t0⟩
theorem wipe_wipe : ∀ (vs : List Nat) (σ : L2.St), L2.wipe (L2.wipe σ vs) vs = L2.wipe σ vs := fun vs σ => by
  have at1 : ∀ (vs : List Nat) (σ : L2.St) (i : Nat), (L2.wipe σ vs)[i]? = if i ∈ vs then σ[i]?.map fun _ => none else σ[i]? := fun vs => by
    induction vs with
    | nil => intro σ i; simp [L2.wipe]
    | cons v vs ih =>
      intro σ i
      unfold L2.wipe
      by_cases h : v = i
      · subst h
        rw [if_pos List.mem_cons_self]
        by_cases hv : v < (L2.wipe σ vs).length
        · rw [List.getElem?_set_self hv]
          rw [wipe_length] at hv
          rw [List.getElem?_eq_getElem hv]
          rfl
        · rw [List.getElem?_eq_none (by simpa using hv)]
          rw [wipe_length] at hv
          rw [List.getElem?_eq_none (by simpa using hv)]
          rfl
      · rw [List.getElem?_set_ne h, ih]
        simp only [List.mem_cons, show (i = v) = False from eq_false (Ne.symm h), false_or]
  apply List.ext_getElem?
  intro i
  rw [at1, at1]
  by_cases h : i ∈ vs
  · rw [if_pos h, if_pos h]
    cases σ[i]? <;> rfl
  · rw [if_neg h]
theorem wipe_set {vs : List Nat} {i : Nat} (hi : i ∈ vs) (σ : L2.St) (v : Option V) : L2.wipe (σ.set i v) vs = L2.wipe σ vs := by
  induction vs generalizing i with
  | nil => cases hi
  | cons w vs ih =>
    unfold L2.wipe
    by_cases h : i ∈ vs
    · rw [ih h]
    · have e : i = w := by simpa [h] using hi
      subst e
      have z : ∀ (vs : List Nat) (σ : L2.St), i ∉ vs → L2.wipe (σ.set i v) vs = (L2.wipe σ vs).set i v := fun vs => by
        induction vs with
        | nil => exact fun _ _ => rfl
        | cons x vs ih =>
          intro σ h
          simp only [List.mem_cons, not_or] at h
          unfold L2.wipe
          rw [ih σ h.2, List.set_comm _ _ h.1]
      rw [z vs σ h, List.set_set]
noncomputable abbrev W0 : Wi := ⟨fun _ _ _ _ => False, fun _ => True⟩
noncomputable abbrev JB (vs : List Nat) (σ : L2.St) : L2.St → Prop := fun τ => L2.wipe τ vs = L2.wipe σ vs
theorem jb {i : Nat} {vs : List Nat} {σ0 : L2.St} (hi : i ∈ vs) : ∀ (σ : L2.St) (v : Option V), JB vs σ0 σ → JB vs σ0 (σ.set i v) := fun σ v h => (wipe_set hi σ v).trans h
theorem Out.nE {G : GC} {W W' : Wi} {σ τ : L2.St} {α : Type} {F H : Hp} {P : Hp → Hp → α → Prop} {x : Res α} {a : α} (e : nE x = .ok a) (h : ∀ F' H', Grow F H F' H' → P F' H' a) : Out G W σ F H P x := by
  rw [nE_some e]
  exact h
theorem t_lc {G : GC} {b : Bool} {fi : Env → Res (List D)} {g : D → Env → Res Env} {t : Env → Res Bool} {f : Env → Res D} {vs : List Nat} (σ : L2.St) (H : Hp) (Q : VK)
    (h : tE G W (.O .flat) (fun r => fi r >>= fun ds => lcD g t f (wipeR r vs) ds >>= lstD) σ H Q) : tLc (tI G W b fi) (tGd G (JB vs σ) g) (tT G W0 t) (tE G W0 .S f) vs σ H Q := by
  obtain ⟨H0, F0, fp, F, r, m, o⟩ := h
  refine ⟨H0, F0, fp, F, r, m, o.bind fun F1 H1 ds g1 o1 J w D hD => ?_⟩
  cases e : lcD g t f (wipeR r vs) ds with
  | er x =>
    exfalso
    have z : ∀ (ds : List Mir.D) (x : Mir.D), lcD g t f (wipeR r vs) ds ≠ .er x := fun ds => by
      induction ds with
      | nil => exact fun x h => nomatch h
      | cons d ds ih =>
        intro x h
        rw [lcD] at h
        cases e1 : nE (g d (wipeR r vs)) with
        | er y => cases hg : g d (wipeR r vs) <;> (rw [hg] at e1; cases e1)
        | bad => rw [e1] at h; cases h
        | ok r1 =>
          rw [e1] at h
          simp only [ok_bind] at h
          cases e2 : nE (t r1) with
          | er y => cases hg : t r1 <;> (rw [hg] at e2; cases e2)
          | bad => rw [e2] at h; cases h
          | ok bb =>
            rw [e2] at h
            simp only [ok_bind] at h
            cases bb with
            | false => exact ih x h
            | true =>
              rw [if_pos rfl] at h
              cases e3 : nE (f r1) with
              | er y => cases hg : f r1 <;> (rw [hg] at e3; cases e3)
              | bad => rw [e3] at h; cases h
              | ok y =>
                rw [e3] at h
                simp only [ok_bind] at h
                cases e4 : lcD g t f (wipeR r vs) ds with
                | er z => exact ih z e4
                | bad => rw [e4] at h; cases h
                | ok zs => rw [e4] at h; cases h
    exact z _ _ e
  | bad => rw [e] at o1; exact o1.elim
  | ok out =>
    rw [e] at o1
    have hl : out.length ≤ lim := by
      by_cases h : out.length ≤ lim
      · exact h
      · simp only [ok_bind] at o1
        unfold lstD at o1
        rw [if_neg h] at o1
        exact o1.elim
    have o2 : ∀ F' H', Grow F1 H1 F' H' → ∀ v, (Kd.O .flat).Rep G H F' H' v (.lst out) → Q v H' := by
      have o1' : Out G W σ F1 H1 _ (lstD out) := o1
      unfold lstD at o1'
      rw [if_pos hl] at o1'
      exact o1'
    clear o1
    have gD : Grow F1 H1 F1 (upd H1 D (.lst [])) := Grow.own g1.sub hD
    refine ⟨fun i mm H => mm = ds.length - i ∧ i ≤ ds.length ∧ ∃ F acc accD rest, Grow F1 H1 F H ∧ F D = none ∧ H D = some (.lst acc) ∧ RepAll G F acc accD ∧ lcD g t f (wipeR r vs) (ds.drop i) = .ok rest ∧ out = accD ++ rest,
      ⟨ds.length, by simp, Nat.zero_le _, F1, [], [], out, gD, g1.sub.free hD, upd_same, .nil, by rw [List.drop_zero]; exact e, by simp⟩, ?_⟩
    rintro i mm H2 ⟨rfl, hi, F2, acc, accD, rest, g2, nD, hD2, ra, el, eo⟩
    have sB : Same (if b = true then F1 else nT H1) H2 := by
      cases b with
      | true => rw [if_pos rfl]; exact g2.f.trans g2.sub
      | false => exact g2.h.nT
    by_cases hlt : i < ds.length
    · refine .inr ⟨w.goes i H2 hlt sB, fun H' => i + 1 ≤ ds.length ∧ ∃ F acc accD rest, Grow F1 H1 F H' ∧ F D = none ∧ H' D = some (.lst acc) ∧ RepAll G F acc accD ∧ lcD g t f (wipeR r vs) (ds.drop (i + 1)) = .ok rest ∧ out = accD ++ rest,
        fun H' q => ⟨ds.length - (i + 1), by omega, rfl, q.1, q.2⟩, fun x H3 y => ?_⟩
      obtain ⟨F3, d, g3, ed, rx⟩ := w.yields i F2 H2 x H3 hlt g2.f g2.sub sB y
      have e1 : ds.drop i = d :: ds.drop (i + 1) := by
        rw [List.drop_eq_getElem_cons hlt]
        rw [List.getElem?_eq_getElem hlt] at ed
        rw [Option.some.inj ed]
      rw [e1, lcD] at el
      have nD3 : F3 D = none := by
        cases z : F3 D with
        | none => rfl
        | some u =>
          rcases g3.new D u z with q | q
          · rw [nD] at q; cases q
          · rw [hD2] at q; cases q
      cases eg : nE (g d (wipeR r vs)) with
      | er y => rw [eg] at el; cases el
      | bad => rw [eg] at el; cases el
      | ok r1 =>
        rw [eg] at el
        simp only [ok_bind] at el
        have m3 := ((m.grow g1).grow g2).grow g3
        refine ⟨H0, F0, fp, F3, wipeR r vs, d, m3.wipe vs (wipe_wipe vs σ), rx, r1, nE_some eg, fun fp4 σ4 m4 => ⟨m4.jo, ?_⟩⟩
        cases et : nE (t r1) with
        | er y => rw [et] at el; cases el
        | bad => rw [et] at el; cases el
        | ok bb =>
          rw [et] at el
          simp only [ok_bind] at el
          refine ⟨H0, F0, fp4, F3, r1, m4.mapJ trivial, Out.nE (W' := W0) (τ := σ) et fun F5 H5 g5 => ?_⟩
          have g25 := g2.trans (g3.trans g5)
          have D5 : H5 D = some (.lst acc) := g5.h.at _ _ (g3.h.at _ _ hD2)
          have nD5 : F5 D = none := by
            cases z : F5 D with
            | none => rfl
            | some u =>
              rcases g5.new D u z with q | q
              · rw [nD3] at q; cases q
              · rw [g3.h.at _ _ hD2] at q; cases q
          cases bb with
          | false => exact ⟨hlt, F5, acc, accD, rest, g25, nD5, D5, ra.mono (g3.f.trans g5.f), el, eo⟩
          | true =>
            rw [if_pos rfl] at el
            show tE G W0 .S f σ4 H5 _
            cases ex : nE (f r1) with
            | er y => rw [ex] at el; cases el
            | bad => rw [ex] at el; cases el
            | ok dx =>
              rw [ex] at el
              simp only [ok_bind] at el
              cases er : lcD g t f (wipeR r vs) (ds.drop (i + 1)) with
              | er y => rw [er] at el; cases el
              | bad => rw [er] at el; cases el
              | ok rest' =>
                rw [er] at el
                have er2 : rest = dx :: rest' := (Res.ok.inj el).symm
                subst er2
                refine ⟨H0, F0, fp4, F5, r1, (m4.mapJ trivial).grow g5, Out.nE (W' := W0) (τ := σ) ex fun F6 H6 g6 v kv => ⟨acc, g6.h.at _ _ D5, ?_, hlt, F6, acc ++ [v], accD ++ [dx], rest', ?_, ?_, upd_same, (ra.mono ((g3.f.trans g5.f).trans g6.f)).append (.cons kv .nil), rfl, by rw [eo]; simp⟩⟩
                · have hle : acc.length < out.length := by rw [eo, ra.length]; simp
                  exact Nat.lt_of_lt_of_le hle (Nat.le_trans hl lim_le)
                · have g26 := g25.trans g6
                  have nD6 : F6 D = none := by
                    cases z : F6 D with
                    | none => rfl
                    | some u =>
                      rcases g6.new D u z with q | q
                      · rw [nD5] at q; cases q
                      · rw [D5] at q; cases q
                  exact ⟨g26.h.upd hD, g26.f, fun b u q => by rw [upd_ne (ne_of_none q nD6)]; exact g26.sub b u q, g26.new⟩
                · cases z : F6 D with
                  | none => rfl
                  | some u =>
                    rcases g6.new D u z with q | q
                    · rw [nD5] at q; cases q
                    · rw [D5] at q; cases q
    · have ei : i = ds.length := by omega
      subst ei
      rw [List.drop_length] at el
      cases el
      rw [List.append_nil] at eo
      subst eo
      exact .inl ⟨w.stops H2 sB, o2 F2 H2 g2 _ ⟨[D], Own.lst rfl hD2 nD (OwnAll.of_rep ra) (by simp), fun a ha => by rw [List.mem_singleton.mp ha]; exact g1.h.free hD⟩⟩
noncomputable abbrev RTs (X : Cx) (W : Wi) (es : List Expr) (f : Env → Res Bool) : Prop := PTs X es (tT (gOf X) W f)
theorem PTs.imp {es : List Expr} {t t' : TT} (h : PTs X es t) (i : ∀ σ H Q, t' σ H Q → t σ H Q) : PTs X es t' := ⟨fun pins s σ H Q I hw => h.run pins s σ H Q I (i σ H Q hw)⟩
theorem rts_nil : RTs X W [] (fun _ => .ok true) := PTs.imp pts_nil fun σ H Q ⟨H0, F0, fp, F, r, m, o⟩ => o F H (Grow.refl m.sub)
theorem re_lc {b : Bool} {elt iter : Expr} {ifs : List Expr} {scope : Scope} {fi : Env → Res (List D)} {g : D → Env → Res Env} {t : Env → Res Bool} {f : Env → Res D} (own : List (Str × Nat)) (hc : X.calm = true) (hN : X.N.Nodup) (hi : RI X W b tg iter fi) (ok : BlkOk X.N X.env.scope scope own)
    (hg : ∀ (s : Shared) (H : Hp) (C : Addr) (cl : List (Str × Addr)) (fp : List Addr) (σ : L2.St), RG (X.blk s H scope (compEnvC scope cl C X.env) fp) (JB (own.map (·.2)) σ) tg g)
    (ht : ∀ (s : Shared) (H : Hp) (C : Addr) (cl : List (Str × Addr)) (fp : List Addr), RTs (X.blk s H scope (compEnvC scope cl C X.env) fp) W0 ifs t)
    (he : ∀ (s : Shared) (H : Hp) (C : Addr) (cl : List (Str × Addr)) (fp : List Addr), RE (X.blk s H scope (compEnvC scope cl C X.env) fp) W0 .S elt f) (hs : ∀ x, foldedSetIterable iter X.env x = pure x := by intro _; rfl) :
    RE X W (.O .flat) (.ListComp elt [⟨tg, iter, ifs, 0⟩] scope pos) (fun r => fi r >>= fun ds => lcD g t f (wipeR r (own.map (·.2))) ds >>= lstD) :=
  ⟨fun pins s σ H Q I h => (pe_lc (g := tGd (gOf X) (JB (own.map (·.2)) σ) g) hc hN hi ok (fun s H C cl fp => hg s H C cl fp σ) ht he hs).run pins s σ H Q I (t_lc σ H Q h)⟩
end
end Mir
namespace Mir
open PySem PySem.Spec PyProof.Rows L2
variable [Tn]
inductive Tg where
  | t (n : String)
  | c (k : Nat)
  deriving DecidableEq
noncomputable def tgOf : D → Tg
  | .non => .t "NoneType"
  | .bl _ => .t "bool"
  | .int _ => .t "int"
  | .str _ => .t "str"
  | .tup _ => .t "tuple"
  | .lst _ => .t "list"
  | .scr _ => .t "list"
  | .dic _ _ => .t "dict"
  | .dct _ _ => .t "dict"
  | .mix .. => .t "dict"
  | .opq => .t "?"
  | .obj c _ => .c c
  | .exc c _ => .c c
  | .cls _ => .t "type"
  | .ty _ => .t "type"
noncomputable def bS : List String := ["NoneType", "bool", "int", "str", "tuple", "list", "dict"]
noncomputable def bT : List String := ["int", "bool", "str", "tuple", "list", "dict", "ValueError"]
noncomputable def clsTg : D → Option Tg
  | .cls c => some (.c c)
  | .ty n => some (.t n)
  | _ => none
noncomputable def tgV (ca : Nat → Addr) : Tg → Value
  | .t n => .type n
  | .c k => .ref (ca k)
/-- the class b is over the class a -/
noncomputable def overC (a b : Nat) : Bool := (a == b) || (b == 5 && decide (a < 2)) || (b == 10 && decide (10 < a))
/-- what isinstance says -/
noncomputable def isaT : Tg → Tg → Bool
  | .t a, .t b => (a == b) || (a == "bool" && b == "int")
  | .t _, .c _ => false
  | .c a, .c b => overC a b
  | .c a, .t b => decide (10 ≤ a) && b == "ValueError"
structure ObjC (K : PySem.W.Frag) (C : Addr) : Prop where
  cl : Cls K C
  ha : PySem.W.findIn K (.ref C) "__class__" = some (some (.builtin "object.__class__"))
  hn : PySem.W.specialIn K (.builtin "object.__class__") "__get__" = some (some (.builtin "getset_descriptor.__get__"))
  ht : PySem.W.takesIn K (.builtin "object.__class__") = some true
  hm : PySem.W.mroIn K C (.type "object") = some true
structure ExcC (K : PySem.W.Frag) (C : Addr) : Prop where
  cl : (PySem.W.clsIn K C).isSome = true
  hg : PySem.W.findIn K (.ref C) "__getattribute__" = some (some (.builtin "BaseException.__getattribute__"))
  hk : PySem.W.findIn K (.ref C) "__getattr__" = some none
  hs : PySem.W.subIn K (.ref C) (.type "BaseException") = some true
  ha : PySem.W.findIn K (.ref C) "__class__" = some (some (.builtin "object.__class__"))
  hn : PySem.W.specialIn K (.builtin "object.__class__") "__get__" = some (some (.builtin "getset_descriptor.__get__"))
  ht : PySem.W.takesIn K (.builtin "object.__class__") = some true
  hm : PySem.W.mroIn K C (.type "object") = some true
/-- the classes cs may be asked for, the classes us may be asked about -/
structure IsM (K : PySem.W.Frag) (ca : Nat → Addr) (cs us : List Nat) : Prop where
  oo : ∀ c ∈ cs, ∀ u ∈ us, PySem.W.kitOne K (.ref (ca c)) (.ref (ca u)) = some (overC c u)
  ot : ∀ c ∈ cs, ∀ u ∈ bT, PySem.W.kitOne K (.ref (ca c)) (.type u) = some (isaT (.c c) (.t u))
  to : ∀ b ∈ bS, ∀ u ∈ us, PySem.W.kitOne K (.type b) (.ref (ca u)) = some false
  ob : ∀ c ∈ cs, c < 10 → ObjC K (ca c)
  ex : ∀ c ∈ cs, 10 ≤ c → ExcC K (ca c)
noncomputable def okS (cs : List Nat) : Tg → Bool
  | .t n => bS.contains n
  | .c k => cs.contains k
noncomputable def okD (cs : List Nat) (d : D) : Bool := okS cs (tgOf d) && (match d with
  | .obj c _ => decide (c < 10)
  | .exc c _ => decide (10 ≤ c)
  | _ => true)
noncomputable def okT (us : List Nat) : Tg → Bool
  | .t n => bT.contains n
  | .c k => us.contains k
theorem bST : ∀ a ∈ bS, ∀ b ∈ bT, kitB a b = some (isaT (.t a) (.t b)) := by decide +kernel
theorem IsM.one {K : PySem.W.Frag} {ca : Nat → Addr} {cs us : List Nat} (M : IsM K ca cs us) {t u : Tg} (h1 : okS cs t = true) (h2 : okT us u = true) : PySem.W.kitOne K (tgV ca t) (tgV ca u) = some (isaT t u) := by
  cases t with
  | t a =>
    have ha : a ∈ bS := by simpa [okS] using h1
    cases u with
    | t b => exact kit_ty (bST a ha b (by simpa [okT] using h2))
    | c k => exact M.to a ha k (by simpa [okT] using h2)
  | c a =>
    have ha : a ∈ cs := by simpa [okS] using h1
    cases u with
    | t b => exact M.ot a ha b (by simpa [okT] using h2)
    | c k => exact M.oo a ha k (by simpa [okT] using h2)
theorem IsM.any {K : PySem.W.Frag} {ca : Nat → Addr} {cs us : List Nat} (M : IsM K ca cs us) {t : Tg} (h1 : okS cs t = true) : ∀ {l : List Tg}, l.all (okT us) = true → PySem.W.kitAny K (tgV ca t) (l.map (tgV ca)) = some (l.any (isaT t))
  | [], _ => rfl
  | u :: l, h => by
    rw [List.all_cons, Bool.and_eq_true] at h
    rw [List.map_cons, List.any_cons]
    refine kitAny_cons (M.one h1 h.1) (fun e => ?_) fun e => ?_
    · rw [e, Bool.false_or]; exact IsM.any M h1 h.2
    · rw [e, Bool.true_or]
noncomputable def optAll : List D → Option (List Tg)
  | [] => some []
  | d :: ds => match clsTg d, optAll ds with
    | some t, some ts => some (t :: ts)
    | _, _ => none
/-- isinstance over data -/
noncomputable def isD (cs us : List Nat) (d c : D) : Res D := if okD cs d = true then (match clsTg c with
    | some u => if okT us u = true then .ok (.bl (isaT (tgOf d) u)) else .bad
    | none => match c with
      | .tup es => match optAll es with
        | some l => if l.all (okT us) = true then .ok (.bl (l.any (isaT (tgOf d)))) else .bad
        | none => .bad
      | _ => .bad) else .bad
theorem ne_isD {cs us : List Nat} : NoEr2 (isD cs us) := fun a b e z => by
  unfold isD at z
  split at z
  · split at z
    · split at z <;> cases z
    · split at z
      · split at z
        · split at z <;> cases z
        · cases z
      · cases z
  · cases z
section
variable {X : Cx} {pins : List (Addr × Obj)} {σ : L2.St} {H F : Hp} {s : Shared}
theorem kit_rd {cs us : List Nat} {v : V} {u : Value} {d : D} (M : IsM X.K (gOf X).ca cs us) (I : L2.Inv X pins σ H s) (sF : Same F H) (h : RdD (gOf X) F H v d) (r : RelV v u) (hk : okD cs d = true) :
    ∃ P : Heap → Prop, PySem.W.KitX X.K u (tgV (gOf X).ca (tgOf d)) P ∧ P s.heap ∧ u ≠ .builtin "__main__.__loader__#opaque" := by
  cases d with
  | non => rw [RdD.non h] at r; exact kit_of I r (.base .non)
  | bl b => rw [RdD.bl h] at r; exact kit_of I r (.base (.bl b))
  | int i => rw [RdD.int h] at r; exact kit_of I r (.base (.int i))
  | str z => rw [RdD.str h] at r; exact kit_of I r (.base (.str z))
  | tup ds =>
    obtain ⟨a, vs, rfl, q, _⟩ := h.tup sF
    rcases q with (q | ⟨o, q⟩) | ⟨o, its, n, q, c, _⟩
    · exact kit_of I r (.base (.tup q))
    · exact kit_of I r (.fTuple q)
    · exact kit_of I r (.kTuple q c)
  | lst ds =>
    obtain ⟨a, vs, rfl, q, _⟩ := h.lst sF
    exact kit_of I r (.base (.lst q))
  | scr ns =>
    obtain ⟨a, rfl, q⟩ := h.scr sF
    rcases q with (q | ⟨o, q⟩) | ⟨o, its, n, q, c, _⟩
    · exact kit_of I r (.base (.lst q))
    · exact kit_of I r (.base (.frz q))
    · exact kit_of I r (.kList q c)
  | dic ks vs =>
    obtain ⟨a, o, xs, ws, rfl, q, _, dd, _⟩ := h.dic sF
    cases (show u = Value.ref a from r)
    obtain ⟨e, _⟩ := (show ObjOk X.prog X.w H s.heap a (.ext (isObj' a o)) from I.hok a _ q)
    exact ⟨_, PySem.W.kitx_dict, ⟨o, e, dd.ex.1⟩, fun z => nomatch z⟩
  | dct ks vs =>
    obtain ⟨a, kvs, rfl, q, _⟩ := h.dct sF
    cases (show u = Value.ref a from r)
    obtain ⟨_, _, ws, _, dd⟩ := dk_any I q
    obtain ⟨o, _, _, e, dx, _⟩ := dd
    exact ⟨_, PySem.W.kitx_dict, ⟨o, e, dx.1⟩, fun z => nomatch z⟩
  | mix ks vs k d =>
    obtain ⟨a, o, xs, ws, u, w, rfl, q, _, dd, _⟩ := h.mix sF
    cases (show _ = Value.ref a from r)
    obtain ⟨e, _⟩ := (show ObjOk X.prog X.w H s.heap a (.ext (isObj' a o)) from I.hok a _ q)
    exact ⟨_, PySem.W.kitx_dict, ⟨o, e, dd.ex.1⟩, fun z => nomatch z⟩
  | opq => exact absurd (show okD cs .opq = true from hk) (by unfold okD; simp [okS, tgOf, bS])
  | obj c vs =>
    unfold okD at hk
    rw [Bool.and_eq_true] at hk
    have hc : c ∈ cs := by simpa [okS, tgOf] using hk.1
    have O := M.ob c hc (of_decide_eq_true hk.2)
    obtain ⟨a, dx, fs, rfl, q⟩ := h.obj sF
    exact kit_of I r (.base (.ins q O.cl O.ha O.hn O.ht O.hm))
  | exc c vs =>
    unfold okD at hk
    rw [Bool.and_eq_true] at hk
    have hc : c ∈ cs := by simpa [okS, tgOf] using hk.1
    have O := M.ex c hc (of_decide_eq_true hk.2)
    rcases h with h | ⟨A, h⟩
    · have ins : ∀ {a : Addr} {d : Option Addr} {od : Option Obj}, (∃ oe us, s.heap.get? a = some oe ∧ oe.cls = .ref ((gOf X).ca c) ∧ oe.dict = d ∧ oe.data = .fields us ∧ us[2]? = some .none) → (match d, od with | some dx, some o => s.heap.get? dx = some o | none, none => True | _, _ => False) → ∃ oe, PySem.W.InstAt s.heap a oe ((gOf X).ca c) od := fun {a d od} ⟨oe, us, h1, h2, h3, h4, _⟩ hd =>
        ⟨oe, h1, h2, by unfold PySem.W.notCls; rw [h4], by rw [h3]; exact hd⟩
      have fin : ∀ {a : Addr} {oe : Obj} {od : Option Obj}, PySem.W.InstAt s.heap a oe ((gOf X).ca c) od → u = .ref a → ∃ P : Heap → Prop, PySem.W.KitX X.K u (tgV (gOf X).ca (tgOf (.exc c vs))) P ∧ P s.heap ∧ u ≠ .builtin "__main__.__loader__#opaque" := fun {a oe od} J e => by
        subst e
        exact ⟨_, PySem.W.kitx_exc O.cl O.hg O.hk O.hs O.ha O.hn O.ht O.hm, J, fun z => nomatch z⟩
      cases h with
      | exc h1 _ =>
        obtain ⟨e, _⟩ := (show ObjOk X.prog X.w H s.heap _ (.ext (isExc _ ((gOf X).ca c) none)) from I.hok _ _ (sF _ _ h1))
        obtain ⟨oe, J⟩ := ins (od := none) e trivial
        exact fin J r
      | excF h1 h2 _ _ =>
        obtain ⟨e, _⟩ := (show ObjOk X.prog X.w H s.heap _ (.ext (isExc _ ((gOf X).ca c) (some _))) from I.hok _ _ (sF _ _ h1))
        obtain ⟨mA, ⟨od, _, _, e2, _⟩, _⟩ := (show ObjOk X.prog X.w H s.heap _ (.xd _) from I.hok _ _ (sF _ _ h2))
        obtain ⟨oe, J⟩ := ins (od := some od) e e2
        exact fin J r
    · cases h
  | cls c => cases hk
  | ty n => cases hk
theorem cls_val {F : Hp} {v : V} {d : D} {u : Value} {t : Tg} (h : Rep (gOf X) F v d) (e : clsTg d = some t) (r : RelV v u) : u = tgV (gOf X).ca t := by
  cases h with
  | cls hm =>
    cases e
    have r' : u = .ref _ := r
    rw [r']
    show Value.ref _ = .ref ((gOf X).ca _)
    rw [ca_of hm]
  | ty n =>
    cases e
    exact r
  | _ => cases e
theorem cls_vals {F : Hp} : ∀ {vs : List V} {ds : List D} {us : List Value} {l : List Tg}, RepAll (gOf X) F vs ds → optAll ds = some l → Vals vs us → us = l.map (tgV (gOf X).ca)
  | _, _, _, _, .nil, e, .nil => by cases e; rfl
  | _, _, _, _, .cons r t, e, .cons q k => by
    rw [optAll] at e
    split at e
    · rename_i a b h1 h2
      cases e
      rw [cls_val r h1 q, cls_vals t h2 k]
      rfl
    · cases e
theorem RdD.clsS {v : V} {d : D} {t : Tg} (h : RdD (gOf X) F H v d) (e : clsTg d = some t) : Rep (gOf X) F v d := by
  rcases h with h | ⟨A, h⟩
  · exact h
  · cases h <;> cases e
noncomputable def rIs (X : Cx) (cs us : List Nat) : List V → Hp → VK → Prop := fun xs H Q => ∃ (F : Hp) (x y : V) (d c e : D), xs = [x, y] ∧ Same F H ∧ RdD (gOf X) F H x d ∧ RdD (gOf X) F H y c ∧ isD cs us d c = .ok e ∧ ∀ v, Rep (gOf X) F v e → Q v H
theorem call_is {cs us : List Nat} (M : IsM X.K (gOf X).ca cs us) : CallR X (.builtin "isinstance") (rIs X cs us) := by
  intro pins s σ H xs ws Q I r h
  obtain ⟨F, x, y, d, c, e, rfl, sF, hd, hc, he, q⟩ := h
  obtain ⟨u1, u2, rfl, r1, r2⟩ := vals2 r
  unfold isD at he
  split at he
  · rename_i hok
    obtain ⟨P, Z, p, hx⟩ := kit_rd M I sF hd r1 hok
    have hok : okS cs (tgOf d) = true := by
      unfold okD at hok
      rw [Bool.and_eq_true] at hok
      exact hok.1
    split at he
    · rename_i t ht
      split at he <;> cases he
      rename_i h2
      have e2 := cls_val (hc.clsS ht) ht r2
      subst e2
      exact PySem.W.kia_one Z I.kIn p (M.one hok h2) hx fun tk => ⟨.bl _, H, I.tok tk, rfl, q _ (.bl _)⟩
    · split at he
      · rename_i es
        split at he
        · rename_i l hl
          split at he <;> cases he
          rename_i h2
          obtain ⟨a, vs, rfl, q1, ra⟩ := hc.tup sF
          cases (show u2 = Value.ref a from r2)
          obtain ⟨its, rv, ⟨o, h1, h2', n, h3⟩, _⟩ := I.tuple q1
          have e3 := cls_vals ra hl rv
          subst e3
          obtain ⟨oc, od, dt, sl⟩ := o
          simp only at h2' h3
          subst h2' h3
          exact PySem.W.kia_tup Z I.kIn p h1 (M.any hok h2) hx fun tk => ⟨.bl _, H, I.tok tk, rfl, q _ (.bl _)⟩
        · cases he
      · cases he
  · cases he
theorem boot_isi : bootBuiltins "isinstance" = some (.builtin "isinstance") := by decide +kernel
theorem b_is {cs us : List Nat} (M : IsM X.K (gOf X).ca cs us) (hm : X.mg "isinstance" = none) : BlM X "isinstance" .S (two (isD cs us)) := BlM.b hm boot_isi (call_is M) (ne_two ne_isD) (cal_two fun F H x y a b d Q s ra rb e q => ⟨F, x, y, a, b, d, rfl, s, ra, rb, e, fun v rv => q v F H (Grow.refl s) rv⟩)
noncomputable def lenD : D → Res D
  | .lst ds => .ok (.int ds.length)
  | .tup ds => .ok (.int ds.length)
  | .scr ns => .ok (.int ns.length)
  | .str z => if z.length ≤ lim then .ok (.int z.length) else .bad
  | .dic ks _ => .ok (.int ks.length)
  | _ => .bad
mutual
theorem nested_of (I : L2.Inv X pins σ H s) (sF : Same F H) : ∀ {v : V} {d : D} {u : Value} {k : NestedKey}, Rep (gOf X) F v d → keyOf d = some k → RelV v u → NestedIs s.heap k u
  | _, _, _, _, .non, e, r => by
    simp only [keyOf, Option.some.injEq] at e
    subst e
    cases (show _ = Value.none from r)
    exact .none
  | _, _, _, _, .bl b, e, r => by
    simp only [keyOf, Option.some.injEq] at e
    subst e
    cases (show _ = Value.bool b from r)
    exact .bool rfl
  | _, _, _, _, .int i, e, r => by
    simp only [keyOf, Option.some.injEq] at e
    subst e
    obtain ⟨t, q⟩ := (show ∃ t, _ = Value.int i t from r)
    cases q
    exact .int i t
  | _, _, _, _, .str z, e, r => by
    simp only [keyOf, Option.some.injEq] at e
    subst e
    obtain ⟨t, q⟩ := (show ∃ t, _ = Value.str z t from r)
    cases q
    exact .text z t
  | _, _, _, _, .tup h ra, e, r => by
    simp only [keyOf, Option.map_eq_some_iff] at e
    obtain ⟨ks, e1, e2⟩ := e
    subst e2
    cases (show _ = Value.ref _ from r)
    obtain ⟨its, rv, ⟨o, h1, h2, n, h3⟩, _⟩ := I.tuple (Same.sqT sF h)
    exact .tup h1 h2 h3 (nested_all I sF ra e1 rv)
  | _, _, _, _, .lst _ _, e, _ => by simp [keyOf] at e
  | _, _, _, _, .scr _, e, _ => by simp [keyOf] at e
  | _, _, _, _, .dic _ _ _ _ _ _ _, e, _ => by simp [keyOf] at e
  | _, _, _, _, .dct _ _ _, e, _ => by simp [keyOf] at e
  | _, _, _, _, .dctK _ _ _, e, _ => by simp [keyOf] at e
  | _, _, _, _, .mix .., e, _ => by simp [keyOf] at e
  | _, _, _, _, .opq, e, _ => by simp [keyOf] at e
  | _, _, _, _, .obj _ _ _, e, _ => by simp [keyOf] at e
  | _, _, _, _, .exc _ _, e, _ => by simp [keyOf] at e
  | _, _, _, _, .excF _ _ _ _, e, _ => by simp [keyOf] at e
  | _, _, _, _, .cls _, e, _ => by simp [keyOf] at e
  | _, _, _, _, .ty _, e, _ => by simp [keyOf] at e
theorem nested_all (I : L2.Inv X pins σ H s) (sF : Same F H) : ∀ {vs : List V} {ds : List D} {us : List Value} {ks : List NestedKey}, RepAll (gOf X) F vs ds → keyOf.keysOf ds = some ks → Vals vs us → NestedAll s.heap ks us
  | _, _, _, _, .nil, e, rv => by
    simp only [keyOf.keysOf, Option.some.injEq] at e
    subst e
    cases rv
    exact .nil
  | _, _, _, _, .cons r t, e, rv => by
    rw [keyOf.keysOf] at e
    split at e
    · rename_i a b h1 h2
      cases e
      cases rv with
      | cons q k => exact .cons (nested_of I sF r h1 q) (nested_all I sF t h2 k)
    · cases e
end
/-- the entries' keys stand -/
theorem keys_is (I : L2.Inv X pins σ H s) (sF : Same F H) : ∀ {xs : List (NestedKey × Addr × Value)} {ks : List D}, RepAll (gOf X) F (xs.map fun x => V.ref x.2.1) ks → ks.map keyOf = xs.map (fun x => some x.1) → (∀ x ∈ xs, x.1.depth ≤ 8) → ∀ x ∈ xs, (nestedKind X.prog X.w).is s.heap x.1 x.2.1
  | [], _, _, _, _, _, h => nomatch h
  | y :: ys, _, .cons r t, e, d, x, h => by
    rw [List.map_cons, List.map_cons, List.cons.injEq] at e
    rcases List.mem_cons.mp h with z | z
    · subst z
      exact ⟨nested_of I sF r e.1 rfl, d x List.mem_cons_self⟩
    · exact keys_is I sF t e.2 (fun x hx => d x (List.mem_cons_of_mem _ hx)) x z
theorem dic_of (I : L2.Inv X pins σ H s) (sF : Same F H) {p : Addr} {o : Obj} {xs : List (NestedKey × Addr × Value)} {ks : List D} (hp : H p = some (.ext (isObj' p o))) (dd : DicO (gOf X) o xs) (h : RepAll (gOf X) F (xs.map fun x => V.ref x.2.1) ks) (e : ks.map keyOf = xs.map (fun x => some x.1)) :
    s.heap.DictOfH (nestedKind X.prog X.w) p xs := by
  obtain ⟨q, _⟩ := (show ObjOk X.prog X.w H s.heap p (.ext (isObj' p o)) from I.hok p _ hp)
  obtain ⟨ents, ep, h1, h2⟩ := dd.dat
  exact ⟨o, ents, ep, q, dd.ex, h1, h2, keys_is I sF h e dd.dp, dd.nd⟩
noncomputable def rLenH (X : Cx) : List V → Hp → VK → Prop := fun xs H Q => ∃ (F : Hp) (p : Addr) (o : Obj) (es : List (NestedKey × Addr × Value)) (ks : List D), xs = [.ref p] ∧ H p = some (.ext (isObj' p o)) ∧ (p == sysModules) = false ∧ Same F H ∧ DicO (gOf X) o es ∧ RepAll (gOf X) F (es.map fun x => V.ref x.2.1) ks ∧ ks.map keyOf = es.map (fun x => some x.1) ∧ Q (.int ((es.length : Nat) : Int)) H
theorem call_lenH : CallR X (.builtin "len") (rLenH X) := by
  intro pins s σ H xs us Q I r h
  obtain ⟨F, p, o, es, ks, rfl, hp, hsys, sF, dd, hr, hk, q⟩ := h
  obtain ⟨u, rfl, rx⟩ := vals1 r
  cases (show u = Value.ref p from rx)
  have hl := dd.sz
  have h63 := line63
  exact call_len_dictH (knd := nestedKind X.prog X.w) hsys (dic_of I sF hp dd hr hk) (by omega) ⟨.int es.length, H, I.tok _, ⟨_, rfl⟩, q⟩
theorem boot_len' : bootBuiltins "len" = some (.builtin "len") := by decide +kernel
theorem b_len (hm : X.mg "len" = none) : BlM X "len" .S (one lenD) := BlM.b hm boot_len' ((call_len_seq.or call_len_str).or call_lenH) (ne_one fun d e z => by unfold lenD at z; split at z <;> (try split at z) <;> cases z) (cal_one fun F H x a d Q s ra e q => by
  unfold lenD at e
  split at e
  · cases e
    obtain ⟨p, vs, rfl, h1, r1⟩ := ra.lst s
    exact .inl (.inl ⟨p, vs, rfl, .inl (.of h1), by rw [r1.length]; exact q _ F H (Grow.refl s) (Rep.int _)⟩)
  · cases e
    obtain ⟨p, vs, rfl, h1, r1⟩ := ra.tup s
    exact .inl (.inl ⟨p, vs, rfl, .inr h1, by rw [r1.length]; exact q _ F H (Grow.refl s) (Rep.int _)⟩)
  · cases e
    obtain ⟨p, rfl, h1⟩ := ra.scr s
    exact .inl (.inl ⟨p, _, rfl, .inl h1, by rw [List.length_map]; exact q _ F H (Grow.refl s) (Rep.int _)⟩)
  · split at e <;> cases e
    rename_i h
    exact .inl (.inr ⟨_, by rw [ra.str], Nat.le_trans h lim_le, q _ F H (Grow.refl s) (Rep.int _)⟩)
  · cases e
    obtain ⟨p, o, xs, ws, rfl, h1, z1, z2, z3, z4, z5, z6⟩ := ra.dic s
    rename_i ks vs
    have hl : xs.length = ks.length := by have := congrArg List.length z5; simpa using this.symm
    exact .inr ⟨F, p, o, xs, ks, rfl, h1, z1, s, z2, z4, z5, by rw [hl]; exact q _ F H (Grow.refl s) (Rep.int _)⟩
  · cases e)
end
end Mir
namespace Mir
open PySem PySem.Spec PyProof.Rows L2
variable [Tn]
section
variable {X : Cx} {pins : List (Addr × Obj)} {σ : L2.St} {H : Hp} {s sI : Shared} {a : Addr}
theorem isExc_ok {P : Program} {w : World} {H : Hp} {h : Heap} {a C : Addr} {d : Option Addr} {oe : Obj} {vs : Array Value} (e : h.get? a = some oe) (z : Zn (.ref C) d oe) (hd : oe.data = .fields vs) : ObjOk P w H h a (.ext (isExc a C d)) :=
  ⟨⟨oe, vs, e, z.1, z.2.1, hd, z.2.2 _ hd⟩, ⟨oe, e⟩, fun _ _ ⟨o, v, q, r⟩ k => ⟨o, v, k o q, r⟩⟩
end
section
variable {X : Cx} {W : Wi} {k : Kd} {C : Addr} {c : Nat} {x : Str} {p pos pos2 : Pos} {e o : Expr} {es : List Expr}
/-- an error's attribute f, by classes: its place -/
structure FldX (K : PySem.W.Frag) (ca : Nat → Addr) (f : Str) (p : Nat → Option Nat) : Prop where
  h : ∀ c i, p c = some i → (cflds c)[i]? = some f ∧ (cflds c).Nodup ∧ XfC K (ca c) ∧ PySem.W.findIn K (.ref (ca c)) f = some none
noncomputable def fldE (p : Nat → Option Nat) (d : D) : Res D := match d with
  | .exc c vs => match p c with
    | some i => match vs[i]? with
      | some d => .ok d
      | none => .bad
    | none => .bad
  | _ => .bad
theorem fldE_er {p : Nat → Option Nat} {d e : D} (h : fldE p d = .er e) : False := by
  unfold fldE at h
  split at h
  · split at h
    · split at h <;> cases h
    · cases h
  · cases h
theorem fldE_ok {p : Nat → Option Nat} {d e : D} (h : fldE p d = .ok e) : ∃ c vs i, d = .exc c vs ∧ p c = some i ∧ vs[i]? = some e := by
  unfold fldE at h
  split at h
  · rename_i c vs
    split at h
    · rename_i i hp
      split at h
      · rename_i d' hv
        cases h
        exact ⟨c, vs, i, rfl, hp, hv⟩
      · cases h
    · cases h
  · cases h
theorem re_exf {f : Str} {pt : Nat → Option Nat} {fo : Env → Res D} (M : FldX X.K (gOf X).ca f pt) (ho : RE X W .S o fo) (hb : attributeBase o f X.env (eval o X.env) = eval o X.env := by rfl) : RE X W .S (.Attribute o f pos) (fun r => fo r >>= fldE pt) := by
  refine ⟨fun pins s σ H Q I ⟨H0, F0, fp, F, r, m, oo⟩ => ?_⟩
  have hw : tE (gOf X) W .S fo σ H (fun v H' => ∃ F' w a dx c ws, Same F' H' ∧ v = .ref a ∧ F' a = some (.ext (isExc a ((gOf X).ca c) (some dx))) ∧ F' dx = some (.xd ((cflds c).zip ws)) ∧ ((cflds c).zip ws).lookup f = some w ∧ XfC X.K ((gOf X).ca c) ∧ PySem.W.findIn X.K (.ref ((gOf X).ca c)) f = some none ∧ Q w H') := by
    refine ⟨H0, F0, fp, F, r, m, oo.bind fun F' H' d gr o2 v kv => ?_⟩
    cases ef : fldE pt d with
    | er x => exact (fldE_er ef).elim
    | bad => rw [ef] at o2; exact o2.elim
    | ok d' =>
      obtain ⟨c, vs, i, rfl, hp, hv⟩ := fldE_ok ef
      rw [ef] at o2
      obtain ⟨h1, h2, h3, h4⟩ := M.h c i hp
      have kv' : Rep (gOf X) F' v (.exc c vs) := kv
      cases kv' with
      | exc _ z => rw [z] at h1; cases h1
      | @excF a dx _ ws _ e1 e2 hl ra =>
        obtain ⟨w, hw, rw'⟩ := ra.get hv
        exact ⟨F', w, a, dx, c, ws, gr.sub, rfl, e1, e2, lookup_zip h2 h1 hw, h3, h4, o2 F' H' (Grow.refl gr.sub) w rw'⟩
  refine attr_of hb (thn (ho.run pins s σ H _ I hw) fun u s1 ⟨x, H1, I1, rx, F', w, a, dx, c, ws, sF, ex, e1, e2, l, T, hno, q⟩ => ?_)
  subst ex
  obtain rfl : u = Value.ref a := rx
  obtain ⟨⟨oe, vs, ha, hc, hdd, hd, _⟩, _⟩ := (show ObjOk X.prog X.w H1 s1.heap a (.ext (isExc a ((gOf X).ca c) (some dx))) from I1.hok a _ (sF _ _ e1))
  obtain ⟨mA, hns, hr⟩ := (show ObjOk X.prog X.w H1 s1.heap dx (.xd ((cflds c).zip ws)) from I1.hok dx _ (sF _ _ e2))
  obtain ⟨od, ho2, hl⟩ := lookIn_ns hns
  obtain ⟨u, hu, ru⟩ := RelO.some_of (v := w) (o := mA f) (by rw [← l]; exact hr f)
  have J : PySem.W.InstAt s1.heap a oe ((gOf X).ca c) (some od) := ⟨ha, hc, by unfold PySem.W.notCls; rw [hd] <;> rfl, by rw [hdd]; exact ho2⟩
  exact HandSPX.exc_get I1.kIn J T.ga T.gg T.exC (PySem.W.findObj_own T.hdC hno rfl (by rw [hl, hu])) (handed_of ru) ⟨w, H1, I1.tok _, ru, q⟩
end
section
variable {X : Cx} {pins : List (Addr × Obj)} {σ : L2.St} {H : Hp} {s sI : Shared} {a : Addr}
/-- a suite's context, the error tracked -/
theorem Inv.suit (I : L2.Inv X pins σ H s) {o : HO} {oe : Obj} {vs : Array Value} (hx : X.ex = []) (J : L2.Inv X pins σ H sI) (nI : sI.heap.get? a = none) (ha : s.heap.get? a = some oe) (hd : oe.data = .fields vs) (na : H a = none) (nL : a ≠ X.env.locals) (new : ObjOk X.prog X.w (upd H a o) s.heap a o) :
    L2.Inv (X.suite a (X.pn ++ pins)) [] σ (upd H a o) s where
  ok := I.ok.suite _ _
  os := I.os
  bare := I.bare
  base := {
    keep := I.base.keep
    slot := I.base.slot
    free := fun b u e n hb => by
      rw [upd_ne ?_]
      · exact I.base.free b u e n hb
      · rintro rfl
        obtain ⟨o', e'⟩ := J.base.there b u e (by show b ∉ X.ex; rw [hx]; simp)
        rw [nI] at e'
        cases e'
    there := I.base.there
    tups := fun b xs e => by rw [upd_ne (ne_of_none (I.base.tups b xs e) na)]; exact I.base.tups b xs e
    frzs := fun b u xs e => by rw [upd_ne (ne_of_none (I.base.frzs b u xs e) na)]; exact I.base.frzs b u xs e
    tbls := fun b ps e => by
      obtain ⟨more, q⟩ := I.base.tbls b ps e
      exact ⟨more, by rw [upd_ne (ne_of_none q na)]; exact q⟩ }
  loc := I.loc
  cell := I.cell
  free := by rw [upd_ne (Ne.symm nL)]; exact I.free
  freeC := fun x c e => by
    rw [upd_ne ?_]
    · exact I.freeC x c e
    · rintro rfl
      obtain ⟨v, o', q1, q2⟩ := I.cell x c e
      rw [ha] at q1
      cases q1
      rw [hd] at q2
      cases q2
  pin := fun p hp => by
    have hp' : p ∈ X.pn ++ pins := by rw [List.append_nil] at hp; exact hp
    obtain ⟨q1, q2, q3⟩ := I.pin p hp'
    refine ⟨q1, ?_, q3⟩
    rw [upd_ne ?_]
    · exact q2
    · rintro rfl
      have z := (J.pin p hp').1
      rw [nI] at z
      cases z
  hok := I.hok.laidN (fun _ _ z => z) na new
  len := I.len
theorem Inv.unsuit {pn' : List (Addr × Obj)} {H' : Hp} (I : L2.Inv (X.suite a (X.pn ++ pins)) pn' σ H' s) (ok : X.Ok) : L2.Inv X pins σ H' s :=
  ⟨ok, I.os, I.bare, I.base, I.loc, I.cell, I.free, I.freeC, fun p hp => I.pin p (List.mem_append_left _ hp), I.hok, I.len⟩
end
/-- an except clause: its class, its name's slot -/
structure Cl where
  c : Value
  i : Option Nat
  t : Addr → TS
noncomputable def clEnds (D : Ends) : Option Nat → Ends
  | none => D
  | some i => { nx := fun σ' H' => D.nx (σ'.set i none) H', rt := D.rt, bk := fun σ' H' => D.bk (σ'.set i none) H', ct := fun σ' H' => D.ct (σ'.set i none) H' }
noncomputable def clSt (σ : L2.St) (a : Addr) : Option Nat → L2.St
  | none => σ
  | some i => σ.set i (some (.ref a))
noncomputable def wTry (K : PySem.W.Frag) (Wout : WX) (D : Ends) : List Cl → WX
  | [] => Wout
  | q :: r => fun cls d σ H => ∃ b, PySem.W.exmOne K cls q.c = some b ∧ (b = true → ∃ C, cls = .ref C ∧ ∀ a, H a = none → q.t a (clEnds D q.i) (clSt σ a q.i) (upd H a (.ext (isExc a C d)))) ∧ (b = false → wTry K Wout D r cls d σ H)
inductive ClsOk (X : Cx) : List ExceptHandler → List Cl → Prop
  | nil : ClsOk X [] []
  | one {x : Str} {q : Cl} {b₀ : Stmt} {suite : List Stmt} {np pos' : Pos} {hds : List ExceptHandler} {l : List Cl} (hc : Names X x q.c) (hi : q.i = none)
      (hsu : ∀ (a : Addr) (pn : List (Addr × Obj)), PSs (X.suite a pn) (b₀ :: suite) (q.t a)) (r : ClsOk X hds l) : ClsOk X (.ExceptHandler (some (.Name x np)) none (b₀ :: suite) pos' :: hds) (q :: l)
  | as {x n : Str} {i : Nat} {q : Cl} {b₀ : Stmt} {suite : List Stmt} {np pos' : Pos} {hds : List ExceptHandler} {l : List Cl} (hc : Names X x q.c) (hi : q.i = some i) (hn : X.N[i]? = some n) (hln : X.env.kindOf n = some .local)
      (hsu : ∀ (a : Addr) (pn : List (Addr × Obj)), PSs (X.suite a pn) (b₀ :: suite) (q.t a)) (r : ClsOk X hds l) : ClsOk X (.ExceptHandler (some (.Name x np)) (some n) (b₀ :: suite) pos' :: hds) (q :: l)
section
variable {X : Cx} {body : List Stmt} {h₀ : ExceptHandler} {hds : List ExceptHandler} {l : List Cl} {pos : Pos} {tb : WX → TS} {Wout : WX}
theorem ps_try (hs : X.stack = X.env :: X.outer) (hf : X.env.frame = some X.env.locals) (hx : X.ex = []) (hN : X.N.Nodup) (tk : Takes X Wout)
    (hb : ∀ (W : WX) (pn : List (Addr × Obj)) (xe : Value → Shared → Prop), Takes (X.tr pn xe) W → PassesOwn (model X.prog X.w) X.A X.env xe → PSs (X.tr pn xe) body (tb W))
    (hh : ClsOk X (h₀ :: hds) l) : PS X (.Try body (h₀ :: hds) [] [] pos) (fun D σ H => tb (wTry X.K Wout D l) D σ H) := by
  refine ⟨fun pins s σ H D I h => ?_⟩
  have ok := I.ok
  have hfr : X.A.frames = some (X.env :: X.outer) := by rw [ok.frames, hs]
  refine wpAny_Try_except ?_
  refine wpAny_mono ((hb (wTry X.K Wout D l) (X.pn ++ pins) (fun e s₁ => wpAny (model X.prog X.w) X.A (noteFrame e X.env) (fun _ s₂ => wpAny (model X.prog X.w) X.A (setFlight e none) (fun _ s₃ =>
    wpAny (model X.prog X.w) X.A (handleBy e X.env (h₀ :: hds)) (SP X pins D) X.xe s₃) X.xe s₂) X.xe s₁) (fun u s' xx => ?_) PassesOwn.looking).run [] s σ H D (I.toTry _) h) (fun f s1 hsp => ?_) (fun e s1 he => he)
  · obtain ⟨a, B, sI, pins', σ', H', cls, d, rfl, J', nb, up, sky, na, os, ag, w⟩ := xx
    have J : L2.Inv X pins σ' H' sI := J'.ofTry ok
    have sky' : Sky B (X.env :: X.outer) a (Zn cls d) X.env.locals s'.heap := by rw [← hs]; exact sky
    show wpAny (model X.prog X.w) X.A (noteFrame (.ref a) X.env) _ _ _
    refine L2N.Sky.land L2N.Zn.steady hfr hf sky' fun h3 fl3 up3 => ?_
    have J3 : L2.Inv X pins σ' H' { s' with heap := h3 } := J.landed nb fl3.1 (up.trans up3) os ag
    obtain ⟨oe3, vs3, he3, hz3, hd3⟩ := fl3.there
    have notFr : ∀ {h : Heap} {o : Obj} {vs : Array Value}, h.FunFrames B (X.env :: X.outer) → h.get? a = some o → o.data = .fields vs → a ∉ frs (X.env :: X.outer) := fun {h o vs} ff e dd hm => by
      obtain ⟨_, o', e', hnf⟩ := ff.mem hm
      rw [e] at e'; cases e'
      exact hnf _ dd
    have nfr := notFr fl3.2.2.1 he3 hd3
    have nL : a ≠ X.env.locals := fun z => nfr (List.mem_filterMap.mpr ⟨X.env, List.mem_cons_self, by rw [hf, z]⟩)
    have nF : a ∉ X.fs := fun hm => by
      obtain ⟨e, he, q⟩ := List.mem_filterMap.mp hm
      exact nfr (List.mem_filterMap.mpr ⟨e, List.mem_cons_of_mem _ he, q⟩)
    have nI : sI.heap.get? a = none := by
      cases q : sI.heap.get? a with
      | none => rfl
      | some o =>
        have z := nb a o q (by rw [hs]; exact nfr)
        have z2 : B.get? a = none := fl3.2.1
        rw [z2] at z
        cases z
    have S3 := J3.suite he3 hd3 na nL nF
    have go : ∀ {hds' : List ExceptHandler} {l' : List Cl}, ClsOk X hds' l' → wTry X.K Wout D l' cls d σ' H' →
        wpAny (model X.prog X.w) X.A (handleBy (.ref a) X.env hds') (SP X pins D) X.xe { s' with heap := h3 } := by
      intro hds' l' hk
      have test0 : ∀ {x : Str} {c : Value} {np : Pos}, Names X x c → ∀ {Q : Value → Shared → Prop} {E : Value → Shared → Prop}, Q c { s' with heap := h3 } → wpAny (model X.prog X.w) (X.A.mark (some (.ref a))) (eval (.Name x np) X.env) Q E { s' with heap := h3 } := fun {x c np} hc {Q E} q => by
        obtain ⟨hg, hdbg, hm | ⟨hm, hv, hnn⟩⟩ := hc
        · exact ld_glob (X := X.suite a ((a, oe3) :: (X.pn ++ pins))) S3 hg hm q hdbg
        · exact ld_blt (X := X.suite a ((a, oe3) :: (X.pn ++ pins))) S3 hg hm hv q hnn hdbg
      have LT : PySem.W.Looks (model X.prog X.w) h3 (typeOf (.ref a)) cls := fun A Q E s k q => wpAny_typeOf_ref (k _ _ he3) (by rw [hz3.1]; exact q)
      induction hk with
      | nil =>
        intro w
        refine wpAny_handleBy_nil ?_
        obtain ⟨k1, k2, k3, oe, vs, T, oT, ts', he, hz, hd, h1, hr⟩ := id fl3
        unfold PySem.passOn
        refine wpAny_bind (wpAny_field he hd h1 ?_)
        rw [if_neg (show ¬ ((Value.ref T == Value.none) = true) from by simp)]
        have fin : wpAny (model X.prog X.w) X.A (setFlight (.ref a) X.env.frame) (fun _ s4 => wpAny (model X.prog X.w) X.A (throw (.ref a) : Sem Flow) (SP X pins D) X.xe s4) X.xe { s' with heap := h3 } := by
          rw [hf]
          refine HandSPX.setFlight_upZ fl3 fun h4 hh4 up4 => wpAny_throw (tk _ _ ?_)
          exact ⟨a, B, sI, pins, σ', H', cls, d, rfl, J, nb, (up.trans up3).trans up4, .inr (.inr (by rw [hs]; exact hh4)), na, os, ag, w⟩
        first
          | exact wpAny_bind (wpAny_pure (wpAny_bind fin))
          | exact wpAny_bind fin
      | @one x q b₀ suite np pos' hds2 l2 hc hi hsu r ih =>
        intro w
        obtain ⟨b, hb1, hyes, hno⟩ := w
        refine wpAny_handleBy_cons (codeAny_handlers_test ?_) (by intro q; cases q)
        have LM := PySem.W.exm_one (M := model X.prog X.w) (J3.kIn) LT hb1
        refine test0 hc (LM.here ?_)
        cases b with
        | true =>
          obtain ⟨C, rfl, hy⟩ := hyes rfl
          refine codeAny_handlers_suite ?_
          refine HandSPX.lands_againZ fl3 fun h4 fl4 up4 => ?_
          have J4 : L2.Inv X pins σ' H' { s' with heap := h4 } := J.landed nb fl4.1 ((up.trans up3).trans up4) os ag
          obtain ⟨oe4, vs4, he4, hz4, hd4⟩ := fl4.there
          have S4 := Mir.Inv.suit (o := .ext (isExc a C d)) J4 hx J nI he4 hd4 na nL (isExc_ok he4 hz4 hd4)
          have hy' := hy a na
          rw [hi] at hy'
          refine wpAny_mono ((hsu a (X.pn ++ pins)).run [] _ _ _ _ S4 hy') (fun f s6 hsp => ?_) (fun _ _ z => False.elim z)
          cases f with
          | next =>
            obtain ⟨σ6, H6, S6, q6⟩ := hsp
            exact ⟨_, _, Inv.unsuit S6 ok, q6⟩
          | brk =>
            obtain ⟨σ6, H6, S6, q6⟩ := hsp
            exact ⟨_, _, Inv.unsuit S6 ok, q6⟩
          | cont =>
            obtain ⟨σ6, H6, S6, q6⟩ := hsp
            exact ⟨_, _, Inv.unsuit S6 ok, q6⟩
          | ret u =>
            obtain ⟨v6, σ6, H6, S6, r6, q6⟩ := hsp
            exact ⟨_, _, _, Inv.unsuit S6 ok, r6, q6⟩
        | false =>
          show wpAny _ X.A (handleBy (.ref a) X.env hds2) _ _ _
          exact ih (hno rfl)
      | @as x n i q b₀ suite np pos' hds2 l2 hc hi hn hln hsu r ih =>
        intro w
        obtain ⟨b, hb1, hyes, hno⟩ := w
        refine wpAny_handleBy_cons (codeAny_handlers_test ?_) (by intro q; cases q)
        have LM := PySem.W.exm_one (M := model X.prog X.w) (J3.kIn) LT hb1
        refine test0 hc (LM.here ?_)
        cases b with
        | true =>
          obtain ⟨C, rfl, hy⟩ := hyes rfl
          refine codeAny_handlers_suite_as ?_
          refine HandSPX.lands_againZ fl3 fun h4 fl4 up4 => ?_
          have J4 : L2.Inv X pins σ' H' { s' with heap := h4 } := J.landed nb fl4.1 ((up.trans up3).trans up4) os ag
          obtain ⟨oe4, vs4, he4, hz4, hd4⟩ := fl4.there
          have S4 := Mir.Inv.suit (o := .ext (isExc a C d)) J4 hx J nI he4 hd4 na nL (isExc_ok he4 hz4 hd4)
          have hloc : Loc X.env.scope n := .inl hln
          have hy' := hy a na
          rw [hi] at hy'
          refine store_ok (X := X.suite a (X.pn ++ pins)) (v := .ref a) S4 hN hn hloc rfl (fun s5 S5 => ?_) (.inr hln)
          refine wpAny_mono ((hsu a (X.pn ++ pins)).run [] s5 _ _ _ S5 hy') (fun f s6 hsp => ?_) (fun _ _ z => False.elim z)
          have end_ : ∀ {σ6 : L2.St} {H6 : Hp} {Q : Shared → Prop}, L2.Inv (X.suite a (X.pn ++ pins)) [] σ6 H6 s6 → (∀ s7, L2.Inv X pins (σ6.set i none) H6 s7 → Q s7) →
              wpAny (model X.prog X.w) X.A (do bindName X.env n .none; unbindBehindTheSuite X.env n pos') (fun _ s7 => Q s7) X.xe s6 := fun {σ6 H6 Q} S6 hq => gone_ok (Inv.unsuit S6 ok) hN hn hln hq
          cases f with
          | next =>
            obtain ⟨σ6, H6, S6, q6⟩ := hsp
            exact end_ S6 fun s7 J7 => ⟨_, _, J7, q6⟩
          | brk =>
            obtain ⟨σ6, H6, S6, q6⟩ := hsp
            exact end_ S6 fun s7 J7 => ⟨_, _, J7, q6⟩
          | cont =>
            obtain ⟨σ6, H6, S6, q6⟩ := hsp
            exact end_ S6 fun s7 J7 => ⟨_, _, J7, q6⟩
          | ret u =>
            obtain ⟨v6, σ6, H6, S6, r6, q6⟩ := hsp
            exact end_ S6 fun s7 J7 => ⟨_, _, _, J7, r6, q6⟩
        | false =>
          show wpAny _ X.A (handleBy (.ref a) X.env hds2) _ _ _
          exact ih (hno rfl)
    exact go hh w
  · cases f with
    | next =>
      obtain ⟨σ', H', J', q⟩ := hsp
      exact wpAny_execs_nil ⟨σ', H', J'.ofTry ok, q⟩
    | brk =>
      obtain ⟨σ', H', J', q⟩ := hsp
      exact ⟨σ', H', J'.ofTry ok, q⟩
    | cont =>
      obtain ⟨σ', H', J', q⟩ := hsp
      exact ⟨σ', H', J'.ofTry ok, q⟩
    | ret u =>
      obtain ⟨v, σ', H', J', r, q⟩ := hsp
      exact ⟨v, σ', H', J'.ofTry ok, r, q⟩
end
theorem MS.unset {G : GC} {J : L2.St → Prop} {H0 F0 F H : Hp} {fp : Nat → List Addr} {σ : L2.St} {r : Env} (m : MS G J H0 F0 fp F σ H r) (i : Nat) (hJ : ∀ σ v, J σ → J (σ.set i v)) : MS G J H0 F0 fp F (σ.set i none) H (r.set i .un) where
  jo := hJ _ _ m.jo
  s0 := m.s0
  t0 := m.t0
  f0 := m.f0
  sub := m.sub
  new := m.new
  len := by simpa using m.len
  sh := fun j e h => by
    rcases get_set_slot h with ⟨_, x, _⟩ | ⟨ne, h⟩
    · cases x
    · rw [List.getElem?_set_ne ne]
      exact m.sh j e h
  ow := fun j s e h => by
    rcases get_set_slot h with ⟨_, x, _⟩ | ⟨ne, h⟩
    · cases x
    · rw [List.getElem?_set_ne ne]
      exact m.ow j s e h
  ap := fun j k s t d e n h1 h2 => by
    rcases get_set_slot h1 with ⟨_, x, _⟩ | ⟨_, h1⟩
    · cases x
    · rcases get_set_slot h2 with ⟨_, x, _⟩ | ⟨_, h2⟩
      · cases x
      · exact m.ap j k s t d e n h1 h2
/-- an except clause over data: the class, the name's slot, the suite -/
structure ClD where
  u : Nat
  i : Option Nat
  g : Env → Oc
noncomputable def bindI (d : D) (r : Env) : Option Nat → Env
  | none => r
  | some i => r.set i (.sh d)
noncomputable def clrI (i : Option Nat) (r : Env) : Env := match i with
  | none => r
  | some i => r.set i .un
noncomputable def closeI (i : Option Nat) : Oc → Oc
  | .nx r => .nx (clrI i r)
  | .bk r => .bk (clrI i r)
  | .ct r => .ct (clrI i r)
  | .rt d => .rt d
  | _ => .bad
noncomputable def catchD (cs us : List Nat) (e : D) (r : Env) : List ClD → Oc
  | [] => .er e r
  | q :: l => match e with
    | .exc c vs => if cs.contains c = true ∧ us.contains q.u = true then (if overC c q.u = true then closeI q.i (q.g (bindI (.exc c vs) r q.i)) else catchD cs us e r l) else .bad
    | _ => .bad
noncomputable def tryD (cs us : List Nat) (gb : Env → Oc) (l : List ClD) (r : Env) : Oc := match gb r with
  | .er e r' => catchD cs us e r' l
  | o => o
/-- errors of cs may come where classes of us are named -/
structure CtM (K : PySem.W.Frag) (ca : Nat → Addr) (cs us : List Nat) : Prop where
  h : ∀ c ∈ cs, ∀ u ∈ us, PySem.W.exmOne K (.ref (ca c)) (.ref (ca u)) = some (overC c u)
noncomputable abbrev WF (J : L2.St → Prop) : Wi := ⟨fun _ _ _ _ => False, J⟩
noncomputable abbrev toCl (G : GC) (J : L2.St → Prop) (k : Kd) (q : ClD) : Cl := ⟨.ref (G.ca q.u), q.i, fun a => tS G (WF (JX J q.i a)) k q.g⟩
theorem catch_ok {G : GC} {W : Wi} {k : Kd} {cs us : List Nat} {H0 F0 F H : Hp} {fp : Nat → List Addr} {σ : L2.St} {r : Env} {DE : Ends} {e : D} {cls : Value} {dd : Option Addr} (M : CtM G.K G.ca cs us) (m : MS G W.J H0 F0 fp F σ H r) (ex : ExcIs G F cls dd e) :
    ∀ (l : List ClD), (∀ q ∈ l, ∀ i, q.i = some i → ∀ σ v, W.J σ → W.J (σ.set i v)) → OutS G W k H0 F0 F DE (catchD cs us e r l) → wTry G.K W.w DE (l.map (toCl G W.J k)) cls dd σ H
  | [], _, o => o fp F σ H cls dd (Same.refl _) m ex
  | q :: l, hJ, o => by
    obtain ⟨c, ws, vs, rfl, rfl, ra, hx⟩ := ex
    rw [catchD] at o
    split at o
    · rename_i hc
      obtain ⟨h1, h2⟩ := hc
      have hm := M.h c (by simpa using h1) q.u (by simpa using h2)
      refine ⟨overC c q.u, hm, fun hb => ?_, fun hb => ?_⟩
      · rw [if_pos hb] at o
        refine ⟨_, rfl, fun a na => ?_⟩
        have gr : Grow F H (upd F a (.ext (isExc a (G.ca c) dd))) (upd H a (.ext (isExc a (G.ca c) dd))) := Grow.mk1 m.sub na
        have m1 := m.grow gr
        have rv : Rep G (upd F a (.ext (isExc a (G.ca c) dd))) (.ref a) (.exc c vs) := by
          rcases hx with ⟨rfl, z, rfl⟩ | ⟨dx, rfl, e2, hl⟩
          · cases ra
            exact .exc upd_same z
          · exact .excF upd_same (gr.f _ _ e2) hl (ra.mono gr.f)
        have o' : OutS G W k H0 F0 (upd F a (.ext (isExc a (G.ca c) dd))) DE (closeI q.i (q.g (bindI (.exc c vs) r q.i))) := OutS.same o gr.f
        have m2 : MS G (JX W.J q.i a) H0 F0 fp (upd F a (.ext (isExc a (G.ca c) dd))) (clSt σ a q.i) (upd H a (.ext (isExc a (G.ca c) dd))) (bindI (.exc c vs) r q.i) := by
          cases hi : q.i with
          | none => exact m1
          | some i => exact (m1.setS i rv (hJ q List.mem_cons_self i hi)).mapJ ⟨(m1.setS i rv (hJ q List.mem_cons_self i hi)).jo, fun v e => by
              rcases Nat.lt_or_ge i σ.length with hl | hl
              · rw [List.getElem?_set_self hl] at e
                exact (Option.some.inj (Option.some.inj e)).symm
              · rw [List.getElem?_eq_none (by simpa using hl)] at e
                cases e⟩
        refine ⟨H0, F0, fp, _, _, m2, ?_⟩
        have clr : ∀ {fp2 F2 σ2 H2 r2}, MS G (JX W.J q.i a) H0 F0 fp2 F2 σ2 H2 r2 → ∀ i, q.i = some i → MS G W.J H0 F0 fp2 F2 (σ2.set i none) H2 (r2.set i .un) := fun m3 i hi => (m3.mapJ (JX.j m3.jo)).unset i (hJ q List.mem_cons_self i hi)
        cases hg : q.g (bindI (.exc c vs) r q.i) with
        | nx r2 =>
          rw [hg] at o'
          intro fp2 F2 σ2 H2 s2 m3
          show (clEnds DE q.i).nx σ2 H2
          cases hi : q.i with
          | none => rw [hi] at o'; exact o' fp2 F2 σ2 H2 s2 (m3.mapJ (JX.j m3.jo))
          | some i => rw [hi] at o'; exact o' fp2 F2 _ H2 s2 (clr m3 i hi)
        | bk r2 =>
          rw [hg] at o'
          intro fp2 F2 σ2 H2 s2 m3
          show (clEnds DE q.i).bk σ2 H2
          cases hi : q.i with
          | none => rw [hi] at o'; exact o' fp2 F2 σ2 H2 s2 (m3.mapJ (JX.j m3.jo))
          | some i => rw [hi] at o'; exact o' fp2 F2 _ H2 s2 (clr m3 i hi)
        | ct r2 =>
          rw [hg] at o'
          intro fp2 F2 σ2 H2 s2 m3
          show (clEnds DE q.i).ct σ2 H2
          cases hi : q.i with
          | none => rw [hi] at o'; exact o' fp2 F2 σ2 H2 s2 (m3.mapJ (JX.j m3.jo))
          | some i => rw [hi] at o'; exact o' fp2 F2 _ H2 s2 (clr m3 i hi)
        | rt d =>
          rw [hg] at o'
          intro F2 H2 v s2 g2 kv
          show (clEnds DE q.i).rt v H2
          cases hi : q.i with
          | none => rw [hi] at o'; exact o' F2 H2 v s2 g2 kv
          | some i => rw [hi] at o'; exact o' F2 H2 v s2 g2 kv
        | er x r2 => rw [hg] at o'; exact o'.elim
        | bad => rw [hg] at o'; exact o'.elim
      · rw [if_neg (by rw [hb]; exact Bool.false_ne_true)] at o
        exact catch_ok M m ⟨c, ws, vs, rfl, rfl, ra, hx⟩ l (fun q hq => hJ q (List.mem_cons_of_mem _ hq)) o
    · exact o.elim
inductive ClsD (X : Cx) (J : L2.St → Prop) (k : Kd) : List ExceptHandler → List ClD → Prop
  | nil : ClsD X J k [] []
  | one {x : Str} {q : ClD} {b₀ : Stmt} {suite : List Stmt} {np pos' : Pos} {hds : List ExceptHandler} {l : List ClD} (hc : Names X x (.ref ((gOf X).ca q.u))) (hi : q.i = none)
      (hsu : ∀ (a : Addr) (pn : List (Addr × Obj)), RSs (X.suite a pn) (WF J) k (b₀ :: suite) q.g) (r : ClsD X J k hds l) : ClsD X J k (.ExceptHandler (some (.Name x np)) none (b₀ :: suite) pos' :: hds) (q :: l)
  | as {x n : Str} {i : Nat} {q : ClD} {b₀ : Stmt} {suite : List Stmt} {np pos' : Pos} {hds : List ExceptHandler} {l : List ClD} (hc : Names X x (.ref ((gOf X).ca q.u))) (hi : q.i = some i) (hn : X.N[i]? = some n) (hln : X.env.kindOf n = some .local) (hJ : ∀ σ v, J σ → J (σ.set i v))
      (hsu : ∀ (a : Addr) (pn : List (Addr × Obj)), RSs (X.suite a pn) (WF (JX J (some i) a)) k (b₀ :: suite) q.g) (r : ClsD X J k hds l) : ClsD X J k (.ExceptHandler (some (.Name x np)) (some n) (b₀ :: suite) pos' :: hds) (q :: l)
theorem ClsD.ok {X : Cx} {J : L2.St → Prop} {k : Kd} : ∀ {hds : List ExceptHandler} {l : List ClD}, ClsD X J k hds l → ClsOk X hds (l.map (toCl (gOf X) J k))
  | _, _, .nil => .nil
  | _, _, .one hc hi hsu r => .one (q := toCl (gOf X) J k _) hc hi (fun a pn => by
      have h := hsu a pn
      show PSs _ _ (tS _ (WF (JX J _ a)) k _)
      rw [hi]
      exact h) (ClsD.ok r)
  | _, _, .as hc hi hn hln _ hsu r => .as (q := toCl (gOf X) J k _) hc hi hn hln (fun a pn => by
      have h := hsu a pn
      show PSs _ _ (tS _ (WF (JX J _ a)) k _)
      rw [hi]
      exact h) (ClsD.ok r)
theorem ClsD.hJ {X : Cx} {J : L2.St → Prop} {k : Kd} : ∀ {hds : List ExceptHandler} {l : List ClD}, ClsD X J k hds l → ∀ q ∈ l, ∀ i, q.i = some i → ∀ σ v, J σ → J (σ.set i v)
  | _, _, .nil, _, h => nomatch h
  | _, _, .one _ hi _ r, q, h => (List.mem_cons.mp h).elim (fun e i z => by subst e; rw [hi] at z; cases z) fun h => ClsD.hJ r q h
  | _, _, .as _ hi _ _ hj _ r, q, h => (List.mem_cons.mp h).elim (fun e i z => by subst e; rw [hi] at z; cases z; exact hj) fun h => ClsD.hJ r q h
theorem rs_try {X : Cx} {W : Wi} {k : Kd} {cs us : List Nat} {body : List Stmt} {h₀ : ExceptHandler} {hds : List ExceptHandler} {l : List ClD} {pos : Pos} {gb : Env → Oc} (M : CtM X.K (gOf X).ca cs us) (hN : X.N.Nodup) (tk : Takes X W.w)
    (hb : ∀ (W' : WX) (pn : List (Addr × Obj)) (xe : Value → Shared → Prop), Takes (X.tr pn xe) W' → PassesOwn (model X.prog X.w) X.A X.env xe → RSs (X.tr pn xe) ⟨W', W.J⟩ k body gb)
    (hh : ClsD X W.J k (h₀ :: hds) l) (hs : X.stack = X.env :: X.outer := by rfl) (hf : X.env.frame = some X.env.locals := by rfl) (hx : X.ex = [] := by rfl) : RS X W k (.Try body (h₀ :: hds) [] [] pos) (tryD cs us gb l) :=
  (ps_try (tb := fun W' => tS (gOf X) ⟨W', W.J⟩ k gb) hs hf hx hN tk hb hh.ok).imp fun D σ H ⟨H0, F0, fp, F, r, m, o⟩ => ⟨H0, F0, fp, F, r, m, by
    unfold tryD at o
    cases e : gb r with
    | er x r' =>
      rw [e] at o
      exact fun fp' F' σ' H' cls dd s m' ex => catch_ok (W := W) M m' ex l hh.hJ (OutS.same (show OutS (gOf X) W k H0 F0 F D (catchD cs us x r' l) from o) s)
    | nx r' => rw [e] at o; exact o
    | bk r' => rw [e] at o; exact o
    | ct r' => rw [e] at o; exact o
    | rt d => rw [e] at o; exact o
    | bad => rw [e] at o; exact o⟩
theorem names_own {X : Cx} {u : Nat} {C : Addr} {x : Str} (hm : X.mg (cname u) = some (.ref C)) (hx : x = cname u := by rfl) (hg : Gl X x := by rfl) (hd : (x == ("__debug__" : Str)) = false := by decide) : Names X x (.ref ((gOf X).ca u)) := by
  subst hx
  exact ⟨hg, hd, .inl (by rw [ca_of (G := gOf X) hm]; exact hm)⟩
end Mir
namespace Mir
open PySem PySem.Spec PyProof.Rows L2
variable [Tn]
noncomputable def enumL (ds : List D) : List D := ds.zipIdx.map fun p => .tup [.int (p.2 : Nat), p.1]
section
variable {X : Cx} {W : Wi} {e : Expr} {p pos tpos : Pos} {elts : List Expr} {kk : Nat}
theorem ints_rep {G : GC} {F : Hp} : ∀ ns : List Int, RepAll G F (ns.map V.int) (ns.map D.int)
  | [] => .nil
  | n :: ns => .cons (.int n) (ints_rep ns)
end
end Mir
namespace Mir
open PySem PySem.Spec PyProof.Rows L2
variable [Tn]
noncomputable def nameG (i : Nat) (d : D) (r : Env) : Res Env := .ok (r.set i (.sh d))
noncomputable def nilG : List D → Env → Res Env := fun ds r => match ds with
  | [] => .ok r
  | _ => .bad
noncomputable def consG (g : D → Env → Res Env) (gs : List D → Env → Res Env) : List D → Env → Res Env := fun ds r => match ds with
  | d :: ds => g d r >>= fun r' => gs ds r'
  | [] => .bad
noncomputable def tupG (n : Nat) (gs : List D → Env → Res Env) : D → Env → Res Env := fun d r => match d with
  | .tup ds => if ds.length = n then gs ds r else .bad
  | _ => .bad
@[simp] theorem nameG_eq (i : Nat) (d : D) (r : Env) : nameG i d r = .ok (r.set i (.sh d)) := rfl
@[simp] theorem nilG_nil (r : Env) : nilG [] r = .ok r := rfl
@[simp] theorem consG_cons (g : D → Env → Res Env) (gs : List D → Env → Res Env) (d : D) (ds : List D) (r : Env) : consG g gs (d :: ds) r = (g d r >>= fun r' => gs ds r') := rfl
@[simp] theorem tupG_tup (n : Nat) (gs : List D → Env → Res Env) (ds : List D) (r : Env) : tupG n gs (.tup ds) r = if ds.length = n then gs ds r else .bad := rfl
section
variable {X : Cx} {J : L2.St → Prop}
theorem gN (i : Nat) {x : Str} {pos : Pos} (hN : X.N.Nodup) (hJ : ∀ σ v, J σ → J (σ.set i v) := by first | exact fun _ _ h => h | exact jset (by decide) | exact jfn (by decide) | exact jxx (fun _ _ h => h) (by decide) | exact jxx (jset (by decide)) (by decide) | exact jb (by decide)) (hi : X.N[i]? = some x := by rfl) (hx : Loc X.env.scope x := by first | exact Or.inl rfl | exact Or.inr rfl) (hf : X.fn x = true ∨ X.env.scope.names.lookup x = some .local := by first | exact .inl rfl | exact .inr rfl) :
    RG X J (.Name x pos) (nameG i) := rg_name i hN hJ hi hx hf
theorem gs0 : RGs X J [] nilG := rgs_nil
theorem gsc {e : Expr} {es : List Expr} {g : D → Env → Res Env} {gs : List D → Env → Res Env} (h1 : RG X J e g) (h2 : RGs X J es gs) (hs : (assignEach (e :: es) X.env).map (·.2) = assign e X.env :: (assignEach es X.env).map (·.2) := by rfl) : RGs X J (e :: es) (consG g gs) := rgs_cons h1 h2 hs
theorem gT {es : List Expr} {kk : Nat} {pos : Pos} {gs : List D → Env → Res Env} (n : Nat) (hc : X.calm = true) (h : RGs X J es gs) (hn : (assignEach es X.env).length = n := by rfl) (hst : (assignEach es X.env).findIdx? (·.1) = none := by rfl) :
    RG X J (.Tuple es kk pos) (tupG n gs) := rg_tup hc h hn hst
end
/-- the attribute f's place in the classes cs -/
noncomputable def plOf (cs : List Nat) (f : Str) (c : Nat) : Option Nat := if cs.contains c = true then (cflds c).idxOf? f else none
theorem plOf_some {cs : List Nat} {f : Str} {c i : Nat} (h : plOf cs f c = some i) : c ∈ cs ∧ (cflds c)[i]? = some f := by
  unfold plOf at h
  split at h
  · rename_i hc
    refine ⟨by simpa using hc, ?_⟩
    rw [List.idxOf?_eq_some_iff] at h
    obtain ⟨h1, h2, _⟩ := h
    rw [List.getElem?_eq_getElem h1]
    exact congrArg some h2
  · cases h
theorem cflds_nd (c : Nat) : (cflds c).Nodup := by
  unfold cflds
  split <;> decide +kernel
theorem fldM_of {K : PySem.W.Frag} {ca : Nat → Addr} {f : Str} {cs : List Nat} (h : ∀ c ∈ cs, Cls K (ca c) ∧ NoAttr K (ca c) f) : FldM K ca f (plOf cs f) :=
  ⟨fun c i e => let ⟨h1, h2⟩ := plOf_some e; ⟨h2, cflds_nd c, (h c h1).1, (h c h1).2⟩⟩
theorem fldX_of {K : PySem.W.Frag} {ca : Nat → Addr} {f : Str} {cs : List Nat} (h : ∀ c ∈ cs, XfC K (ca c) ∧ PySem.W.findIn K (.ref (ca c)) f = some none) : FldX K ca f (plOf cs f) :=
  ⟨fun c i e => let ⟨h1, h2⟩ := plOf_some e; ⟨h2, cflds_nd c, (h c h1).1, (h c h1).2⟩⟩
noncomputable def objB (K : PySem.W.Frag) (C : Addr) : Bool := PySem.W.plainGet K C Str.empty && (PySem.W.hasDictIn K C && (PySem.W.plainOver K C && (decide (PySem.W.findIn K (.ref C) "__setattr__" = some (some (.builtin "object.__setattr__"))) && (decide (PySem.W.findIn K (.ref C) "__class__" = some (some (.builtin "object.__class__"))) &&
  (decide (PySem.W.specialIn K (.builtin "object.__class__") "__get__" = some (some (.builtin "getset_descriptor.__get__"))) && (decide (PySem.W.takesIn K (.builtin "object.__class__") = some true) && decide (PySem.W.mroIn K C (.type "object") = some true)))))))
theorem objB_ok {K : PySem.W.Frag} {C : Addr} (h : objB K C = true) : ObjC K C := by
  unfold objB at h
  simp only [Bool.and_eq_true, decide_eq_true_eq] at h
  obtain ⟨h1, h2, h3, h4, h5, h6, h7, h8⟩ := h
  exact ⟨⟨h1, h2, h3, h4⟩, h5, h6, h7, h8⟩
noncomputable def excB (K : PySem.W.Frag) (C : Addr) : Bool := (PySem.W.clsIn K C).isSome && (decide (PySem.W.findIn K (.ref C) "__getattribute__" = some (some (.builtin "BaseException.__getattribute__"))) && (decide (PySem.W.findIn K (.ref C) "__getattr__" = some none) && (decide (PySem.W.subIn K (.ref C) (.type "BaseException") = some true) && (decide (PySem.W.findIn K (.ref C) "__class__" = some (some (.builtin "object.__class__"))) &&
  (decide (PySem.W.specialIn K (.builtin "object.__class__") "__get__" = some (some (.builtin "getset_descriptor.__get__"))) && (decide (PySem.W.takesIn K (.builtin "object.__class__") = some true) && decide (PySem.W.mroIn K C (.type "object") = some true)))))))
theorem excB_ok {K : PySem.W.Frag} {C : Addr} (h : excB K C = true) : ExcC K C := by
  unfold excB at h
  simp only [Bool.and_eq_true, decide_eq_true_eq] at h
  obtain ⟨h1, h2, h3, h4, h5, h6, h7, h8⟩ := h
  exact ⟨h1, h2, h3, h4, h5, h6, h7, h8⟩
noncomputable def isTab1 (K : PySem.W.Frag) (us : List (Nat × Addr)) (p : Nat × Addr) : Bool := (us.all fun q => decide (PySem.W.kitOne K (.ref p.2) (.ref q.2) = some (overC p.1 q.1))) && ((bT.all fun u => decide (PySem.W.kitOne K (.ref p.2) (.type u) = some (isaT (.c p.1) (.t u)))) && (if p.1 < 10 then objB K p.2 else excB K p.2))
noncomputable def isTab2 (K : PySem.W.Frag) (q : Nat × Addr) : Bool := bS.all fun b => decide (PySem.W.kitOne K (.type b) (.ref q.2) = some false)
noncomputable def isTab (K : PySem.W.Frag) (l us : List (Nat × Addr)) : Bool := l.all (isTab1 K us) && us.all (isTab2 K)
theorem isM_of {K : PySem.W.Frag} {ca : Nat → Addr} {l us : List (Nat × Addr)} (hl : ∀ p ∈ l, ca p.1 = p.2) (hu : ∀ p ∈ us, ca p.1 = p.2) (h : isTab K l us = true) : IsM K ca (l.map (·.1)) (us.map (·.1)) := by
  unfold isTab at h
  simp only [Bool.and_eq_true, List.all_eq_true] at h
  obtain ⟨h1, h2⟩ := h
  have one : ∀ p ∈ l, (∀ q ∈ us, PySem.W.kitOne K (.ref p.2) (.ref q.2) = some (overC p.1 q.1)) ∧ (∀ u ∈ bT, PySem.W.kitOne K (.ref p.2) (.type u) = some (isaT (.c p.1) (.t u))) ∧ (if p.1 < 10 then objB K p.2 else excB K p.2) = true := fun p hp => by
    have z := h1 p hp
    unfold isTab1 at z
    simp only [Bool.and_eq_true, List.all_eq_true, decide_eq_true_eq] at z
    exact z
  have two : ∀ q ∈ us, ∀ b ∈ bS, PySem.W.kitOne K (.type b) (.ref q.2) = some false := fun q hq b hb => by
    have z := h2 q hq
    unfold isTab2 at z
    simp only [List.all_eq_true, decide_eq_true_eq] at z
    exact z b hb
  refine ⟨fun c hc u hu' => ?_, fun c hc u hu' => ?_, fun b hb u hu' => ?_, fun c hc h10 => ?_, fun c hc h10 => ?_⟩
  · obtain ⟨p, hp, rfl⟩ := List.mem_map.mp hc
    obtain ⟨q, hq, rfl⟩ := List.mem_map.mp hu'
    rw [hl p hp, hu q hq]
    exact (one p hp).1 q hq
  · obtain ⟨p, hp, rfl⟩ := List.mem_map.mp hc
    rw [hl p hp]
    exact (one p hp).2.1 u hu'
  · obtain ⟨q, hq, rfl⟩ := List.mem_map.mp hu'
    rw [hu q hq]
    exact two q hq b hb
  · obtain ⟨p, hp, rfl⟩ := List.mem_map.mp hc
    rw [hl p hp]
    have z := (one p hp).2.2
    rw [if_pos h10] at z
    exact objB_ok z
  · obtain ⟨p, hp, rfl⟩ := List.mem_map.mp hc
    rw [hl p hp]
    have z := (one p hp).2.2
    rw [if_neg (by omega)] at z
    exact excB_ok z
noncomputable def ctB (K : PySem.W.Frag) (l us : List (Nat × Addr)) : Bool := l.all fun p => us.all fun q => decide (PySem.W.exmOne K (.ref p.2) (.ref q.2) = some (overC p.1 q.1))
theorem ctM_of {K : PySem.W.Frag} {ca : Nat → Addr} {l us : List (Nat × Addr)} (hl : ∀ p ∈ l, ca p.1 = p.2) (hu : ∀ p ∈ us, ca p.1 = p.2) (h : ctB K l us = true) : CtM K ca (l.map (·.1)) (us.map (·.1)) := by
  unfold ctB at h
  simp only [List.all_eq_true, decide_eq_true_eq] at h
  refine ⟨fun c hc u hu' => ?_⟩
  obtain ⟨p, hp, rfl⟩ := List.mem_map.mp hc
  obtain ⟨q, hq, rfl⟩ := List.mem_map.mp hu'
  rw [hl p hp, hu q hq]
  exact h p hp q hq
/-- an attribute of objects -/
noncomputable def flB (K : PySem.W.Frag) (f : Str) (l : List (Nat × Addr)) : Bool := l.all fun p => objB K p.2 && decide (PySem.W.findIn K (.ref p.2) f = some none)
theorem fldM_by {K : PySem.W.Frag} {ca : Nat → Addr} {f : Str} {l : List (Nat × Addr)} (hl : ∀ p ∈ l, ca p.1 = p.2) (h : flB K f l = true) : FldM K ca f (plOf (l.map (·.1)) f) := fldM_of fun c hc => by
  obtain ⟨p, hp, rfl⟩ := List.mem_map.mp hc
  rw [hl p hp]
  unfold flB at h
  simp only [List.all_eq_true, Bool.and_eq_true, decide_eq_true_eq] at h
  exact ⟨(objB_ok (h p hp).1).cl, (h p hp).2⟩
theorem clM_by {K : PySem.W.Frag} {ca : Nat → Addr} {f : Str} {l : List (Nat × Addr)} {c : Nat} (hl : ∀ p ∈ l, ca p.1 = p.2) (h : flB K f l = true) (hc : c ∈ l.map (·.1)) : ClM K ca f c := by
  obtain ⟨p, hp, rfl⟩ := List.mem_map.mp hc
  unfold flB at h
  simp only [List.all_eq_true, Bool.and_eq_true, decide_eq_true_eq] at h
  have z := h p hp
  refine ⟨?_, ?_, cflds_nd _⟩
  · rw [hl p hp]; exact (objB_ok z.1).cl
  · rw [hl p hp]; exact z.2
noncomputable def xlB (K : PySem.W.Frag) (f : Str) (l : List (Nat × Addr)) : Bool := l.all fun p => xfB K p.2 && decide (PySem.W.findIn K (.ref p.2) f = some none)
theorem fldX_by {K : PySem.W.Frag} {ca : Nat → Addr} {f : Str} {l : List (Nat × Addr)} (hl : ∀ p ∈ l, ca p.1 = p.2) (h : xlB K f l = true) : FldX K ca f (plOf (l.map (·.1)) f) := fldX_of fun c hc => by
  obtain ⟨p, hp, rfl⟩ := List.mem_map.mp hc
  rw [hl p hp]
  unfold xlB at h
  simp only [List.all_eq_true, Bool.and_eq_true, decide_eq_true_eq] at h
  exact ⟨xfB_ok (h p hp).1, (h p hp).2⟩
/-- an error class without an __init__ of its own -/
noncomputable def e0B (K : PySem.W.Frag) (C : Addr) : Bool := PySem.W.excIn K C veT "ValueError.__new__" && (PySem.W.keepIn K (.ref C) && (decide (PySem.W.subIn K (.ref C) (.type "BaseException") = some true) && decide (PySem.W.typeIn K (.ref C) = some (.type "type"))))
theorem exM0_by {K : PySem.W.Frag} {mg : Str → Option Value} {C : Addr} {c : Nat} (hm : mg (cname c) = some (.ref C)) (h : e0B K C = true) (no : cflds c = [] := by rfl) : ExM0 K mg C c := by
  unfold e0B at h
  simp only [Bool.and_eq_true, decide_eq_true_eq] at h
  obtain ⟨h1, h2, h3, h4⟩ := h
  exact ⟨hm, h1, h2, h3, h4, no⟩
/-- .. with one -/
noncomputable def oexB (K : PySem.W.Frag) (C : Addr) : Bool := decide (PySem.W.findIn K (.ref C) "__setattr__" = some (some (.builtin "object.__setattr__"))) && (decide (PySem.W.subIn K (.ref C) (.type "BaseException") = some true) && (decide (PySem.W.typeIn K (.ref C) = some (.type "type")) && PySem.W.keepIn K (.ref C)))
theorem oexC_by {K : PySem.W.Frag} {C : Addr} {nm q : Str} {N : Addr} {bs bm : List Value} {sn : List Str} {sub : List Value} {ab : Bool} {col : Option Bool} {dd : Option Addr} {k0 k1 k2 k3 k5 : Option Value}
    (hC : K.lookup C = some (excClassObj nm q C N bs bm true sn sub ab col dd k0 k1 k2 k3 k5 "ValueError.__new__")) (hb : PySem.HandSPX.refsVE bm = true) (h : oexB K C = true) : OexC K C := by
  unfold oexB at h
  simp only [Bool.and_eq_true, decide_eq_true_eq] at h
  obtain ⟨h1, h2, h3, h4⟩ := h
  exact ⟨⟨nm, q, N, bs, bm, sn, sub, ab, col, dd, k0, k1, k2, k3, k5, hC, hb⟩, h1, h2, h3, h4⟩
theorem cg_by {P : Program} {w : World} {K : PySem.W.Frag} {mg : Str → Option Value} {c : Nat} {C : Addr} (h : mg (cname c) = some (.ref C)) : mg (cname c) = some (.ref ((⟨P, w, K, mg⟩ : GC).ca c)) := by
  rw [ca_of (G := ⟨P, w, K, mg⟩) h]
  exact h
theorem nT_same (H : Hp) : Same (nT H) H := fun _ _ e => (nT_of e).1
theorem tt_start {H : Hp} {cs : List (Addr × Addr)} (hl : Tn.l = cs.map (·.2)) (hH : ∀ p ∈ cs, H p.2 = some (.tbl #[])) : Tt (nT H) H := fun P hP => by
  rw [hl] at hP
  obtain ⟨p, hp, rfl⟩ := List.mem_map.mp hP
  refine ⟨?_, #[], hH p hp, True.intro, fun pos cv e => ?_⟩
  · unfold nT
    rw [hH p hp]
  · have z : codeAmong pos [] = some cv := e
    simp [codeAmong] at z
/-- the tables: the def's name, where it stands, its code object, its table -/
noncomputable abbrev TbE := Str × Addr × Addr × Addr
noncomputable def tabKB (K : PySem.W.Frag) (t : TbE) : Bool := (match K.lookup t.2.1 with
  | some ⟨_, _, .func fd, _⟩ => (match fd.code with | .ref c => decide (c = t.2.2.1) | _ => false)
  | _ => false) && (PySem.W.codeHdIn K t.2.2.1 t.2.2.2 && ((match K.lookup t.2.2.1 with
  | some ⟨_, _, .fields vs, _⟩ => (match (vs[11]? : Option Value) with | some (.ref P) => decide (P = t.2.2.2) | _ => false)
  | _ => false) && (K.lookup t.2.2.2).isNone))
theorem tabKB_some {K : PySem.W.Frag} {t : TbE} (h : tabKB K t = true) : (∃ (o : Obj) (fd : FuncData), K.lookup t.2.1 = some o ∧ o.data = .func fd ∧ fd.code = .ref t.2.2.1) ∧ PySem.W.codeHdIn K t.2.2.1 t.2.2.2 = true ∧
    (∃ (e : Value) (dd : Option Addr) (vs : Array Value) (sl : Array (Option Value)), K.lookup t.2.2.1 = some ⟨e, dd, .fields vs, sl⟩ ∧ vs[11]? = some (.ref t.2.2.2)) ∧ K.lookup t.2.2.2 = none := by
  unfold tabKB at h
  simp only [Bool.and_eq_true] at h
  obtain ⟨h1, h2, h3, h4⟩ := h
  refine ⟨?_, h2, ?_, by simpa using h4⟩
  · split at h1
    · rename_i fd _ e
      split at h1
      · rename_i c ec
        have := of_decide_eq_true h1
        subst this
        exact ⟨_, fd, e, rfl, ec⟩
      · cases h1
    · cases h1
  · split at h3
    · rename_i vs _ e
      split at h3
      · rename_i c ec
        have := of_decide_eq_true h3
        rw [this] at ec
        exact ⟨_, _, vs, _, e, ec⟩
      · cases h3
    · cases h3
/-- the law's promise, and the tables that it leans on -/
noncomputable def LawT (P : Program) (w : World) (K : PySem.W.Frag) (q : Program) (k : Nat) (x : Str) (mg : Str → Option Value) (fa : Addr) (g : List D → Res D) : Prop :=
  ∃ (tn : Tn) (fd : FuncData) (ts : List TbE), tn.l = ts.map (·.2.2.2) ∧ (∀ t ∈ ts, ((recsOf q).any fun e => e.name == t.1) = true ∧ mg t.1 = some (.ref t.2.1) ∧ tabKB K t = true) ∧ (∀ (s : Shared) (u : Value), BindsTo s fd ⟨[u], []⟩ [(x, u)]) ∧
    ∀ base : Heap, K.In base → base.Ns mainGlobals mg → (∀ t ∈ ts, LamX.TabB base mg t.2.2.1 t.2.2.2) → FnOk P w K mg base (L2N.CX P w) k fa fd [x] (@spM tn ⟨P, w, K, mg⟩ .S g)
theorem walk_mir {l : PySem.W.OpenLaw} {k : Nat} {q : Program} {loose : List Str} {XP : (Str → Option Value) → Heap → Prop} {YP : World → Heap → Prop} {d : DefRec} {K : Params → PySem.W.Frag} {x : Str} {g : List D → Res D}
    (hn : l.most = some 63) (hdf : d.params.defaults = []) (hr : Room k callerA) (hY : ∀ (w : World) (h : Heap), YP w h → (K w.params).In h) (hg : ∀ ns : List Int, ns.length ≤ 63 → g [.scr ns] = .ok (.bl true))
    (F : ∀ (w : World) (mg : Str → Option Value) (fa : Addr) (h : Heap), (K w.params).In h → h.Ns mainGlobals mg → mg d.name = some (.ref fa) → LawT l.prog w (K w.params) q k x mg fa g) :
    PySem.W.WalkO q loose XP YP l.row.toRowW d [] (fun f vs => PySem.call f vs) := by
  refine Att.attach_callB hn hdf fun w s₀ s₁ mg mb fa o pm cd doc a vs ns G Y ho hd hcd hmg hobj hints hlen hbits hg' => ?_
  have KX := hY w _ Y
  obtain ⟨tn, fd, ts, hl, ht, hb, hF⟩ := F w mg fa _ KX G.T.g hmg
  have emp : ∀ t ∈ ts, s₁.heap.get? t.2.2.2 = some { cls := .none, data := .fields #[] } := fun t htm => by
    obtain ⟨hrec, hmt, hk⟩ := ht t htm
    obtain ⟨⟨o1, fd1, k1, k2, k3⟩, _, ⟨e, dd, vs1, sl, k4, k5⟩, _⟩ := tabKB_some hk
    obtain ⟨dL, hm, hn1⟩ := List.any_eq_true.mp hrec
    have hn2 : dL.name = t.1 := beq_iff_eq.mp hn1
    obtain ⟨a', o', fd', c', P', h1, h2, h3, h4, h5, h6⟩ := G.T.tab dL hm
    rw [hn2, hmt] at h1
    cases h1
    have g1 := KX _ _ k1
    rw [g1] at h2
    cases h2
    rw [k2] at h3
    cases h3
    rw [k3] at h4
    cases h4
    obtain ⟨⟨oc, vc, e1, _, e3, e4⟩, hP⟩ := h6
    have g2 := KX _ _ k4
    rw [g2] at e1
    cases e1
    cases e3
    rw [k5] at e4
    cases e4
    exact hP
  refine LamX.law_callTs (cs := ts.map (·.2.2)) KX G.T.g G.T.b G.T.builtins G.T.nolimit hg' (fun p hp => ?_) (fun p hp => ?_) (fun p hp => ?_) G.T.bmain hobj hints (Nat.le_trans hlen (by rw [sizeLine_eq]; decide)) hr (fun base h1 h2 h3 => hF base h1 h2 fun t htm => h3 t.2.2 (List.mem_map.mpr ⟨t, htm, rfl⟩)) hb (fun H hH hS => ?_) fun H e s' c => ?_
  · obtain ⟨t, htm, rfl⟩ := List.mem_map.mp hp
    exact emp t htm
  · obtain ⟨t, htm, rfl⟩ := List.mem_map.mp hp
    exact (tabKB_some (ht t htm).2.2).2.2.2
  · obtain ⟨t, htm, rfl⟩ := List.mem_map.mp hp
    exact PySem.W.codeHd_of_K KX (tabKB_some (ht t htm).2.2).2.1
  · refine ⟨nT H, [.scr ns], nT_same H, tt_start (cs := ts.map (·.2.2)) (by rw [hl, List.map_map]; rfl) hH, .cons (.scr (sqL_nT hS)) .nil, ?_⟩
    rw [hg ns hlen]
    intro F' H' _ v kv
    cases (show Rep _ F' v (.bl true) from kv)
    rfl
  · obtain ⟨a, B, H', cls, d, rfl, fl, hok, ub, na, os, ag, hE⟩ := c
    exact hE
end Mir
namespace Mir
open PySem PySem.Spec PyProof.Rows L2
variable [Tn]
@[simp] noncomputable def tupD (ds : List D) : Res D := if ds.length ≤ lim then .ok (.tup ds) else .bad
noncomputable def raiseD (c : Nat) (ds : List D) (r : Env) : Oc := if ds.length = (cflds c).length ∧ ds.length ≤ 1000 then .er (.exc c ds.reverse) r else .bad
theorem boot_ty_int : bootBuiltins "int" = some (.type "int") := by decide +kernel
theorem boot_ty_bool : bootBuiltins "bool" = some (.type "bool") := by decide +kernel
theorem boot_ty_tuple : bootBuiltins "tuple" = some (.type "tuple") := by decide +kernel
theorem boot_ty_list : bootBuiltins "list" = some (.type "list") := by decide +kernel
theorem re_gI {X : Cx} {W : Wi} {x : Str} {pos : Pos} {i : Int} (hm : ∃ t, X.mg x = some (.int i t)) (hg : Gl X x := by rfl) (hd : (x == ("__debug__" : Str)) = false := by decide) : RE X W .S (.Name x pos) (fun _ => .ok (.int i)) :=
  let ⟨_, h⟩ := hm
  re_gInt h hg hd
/-- how many turns of a while are looked after -/
@[irreducible] noncomputable def turns : Nat := 1000000
theorem turns_eq : turns = 1000000 := by unfold turns; rfl
/-- a while of at most so many turns -/
noncomputable def loopD (c : Env → Res Bool) (b : Env → Oc) (r : Env) : Oc := whileD c b turns r
theorem rs_loop {X : Cx} {W : Wi} {k : Kd} {c : Expr} {body : List Stmt} {pos : Pos} {f : Env → Res Bool} {gb : Env → Oc} (hp : PassesOwn (model X.prog X.w) X.A X.env X.xe) (hc : RT X W c f) (hb : RSs X W k body gb) : RS X W k (.While c body [] pos) (loopD f gb) := rs_while hp hc hb fun _ => turns
end Mir
namespace Mir
open PySem PySem.Spec PyProof.Rows L2
variable [Tn]
noncomputable def okQ : Nat → D → Bool
  | _, .non => true
  | _, .bl _ => true
  | _, .int _ => true
  | _, .str s => PyData.strOk s
  | n + 1, .tup xs => xs.all (okQ n)
  | n + 1, .lst xs => xs.all (okQ n)
  | _, _ => false
mutual
noncomputable def eqQ : D → D → Bool
  | .non, .non => true
  | .bl a, .bl b => a == b
  | .bl a, .int j => (if a = true then 1 else 0) == j
  | .int i, .bl b => i == (if b = true then 1 else 0)
  | .int i, .int j => i == j
  | .str x, .str y => x == y
  | .lst xs, .lst ys => eqQs xs ys
  | .tup xs, .tup ys => eqQs xs ys
  | _, _ => false
noncomputable def eqQs : List D → List D → Bool
  | [], [] => true
  | x :: xs, y :: ys => eqQ x y && eqQs xs ys
  | _, _ => false
end
theorem toPy_ok : ∀ (n : Nat) (d : D), okQ n d = true → ∃ p, toPy d = some p ∧ p.canLay0 = true ∧ p.depth ≤ n := by
  have all : ∀ (n : Nat), (∀ d, okQ n d = true → ∃ p, toPy d = some p ∧ p.canLay0 = true ∧ p.depth ≤ n) → ∀ xs : List D, xs.all (okQ n) = true → ∃ ps, toPy.toPys xs = some ps ∧ PyData.canLayAll0 ps = true ∧ PyData.depthAll ps ≤ n := fun n h xs => by
    induction xs with
    | nil => exact fun _ => ⟨[], by rw [toPy.toPys], by rw [PyData.canLayAll0], by rw [PyData.depthAll]; omega⟩
    | cons x xs ih =>
      intro hx
      rw [List.all_cons, Bool.and_eq_true] at hx
      obtain ⟨p, h1, h2, h3⟩ := h x hx.1
      obtain ⟨ps, h4, h5, h6⟩ := ih hx.2
      exact ⟨p :: ps, by rw [toPy.toPys, h1, h4], by rw [PyData.canLayAll0, h2, h5]; rfl, by rw [PyData.depthAll]; omega⟩
  intro n
  induction n with
  | zero =>
    intro d h
    cases d with
    | non => exact ⟨.none, by rw [toPy], by rw [PyData.canLay0], by rw [PyData.depth]; omega⟩
    | bl b => exact ⟨.bool b, by rw [toPy], by rw [PyData.canLay0], by rw [PyData.depth]; omega⟩
    | int i => exact ⟨.int i, by rw [toPy], by rw [PyData.canLay0], by rw [PyData.depth]; omega⟩
    | str s => exact ⟨.str s, by rw [toPy], by rw [PyData.canLay0]; simpa [okQ] using h, by rw [PyData.depth]; omega⟩
    | _ => simp [okQ] at h
  | succ n ih =>
    intro d h
    cases d with
    | non => exact ⟨.none, by rw [toPy], by rw [PyData.canLay0], by rw [PyData.depth]; omega⟩
    | bl b => exact ⟨.bool b, by rw [toPy], by rw [PyData.canLay0], by rw [PyData.depth]; omega⟩
    | int i => exact ⟨.int i, by rw [toPy], by rw [PyData.canLay0], by rw [PyData.depth]; omega⟩
    | str s => exact ⟨.str s, by rw [toPy], by rw [PyData.canLay0]; simpa [okQ] using h, by rw [PyData.depth]; omega⟩
    | tup xs =>
      obtain ⟨ps, h1, h2, h3⟩ := all n ih xs (by simpa [okQ] using h)
      exact ⟨.tuple ps, by rw [toPy, h1]; rfl, by rw [PyData.canLay0, h2], by rw [PyData.depth]; omega⟩
    | lst xs =>
      obtain ⟨ps, h1, h2, h3⟩ := all n ih xs (by simpa [okQ] using h)
      exact ⟨.list ps, by rw [toPy, h1]; rfl, by rw [PyData.canLay0, h2], by rw [PyData.depth]; omega⟩
    | _ => simp [okQ] at h
theorem eqv_eqQ : ∀ (n : Nat) (a b : D) (p q : PyData), okQ n a = true → toPy a = some p → toPy b = some q → PyData.eqv p q = eqQ a b := by
  have all : ∀ (n : Nat), (∀ (a b : D) (p q : PyData), okQ n a = true → toPy a = some p → toPy b = some q → PyData.eqv p q = eqQ a b) → ∀ (xs ys : List D) (ps qs : List PyData), xs.all (okQ n) = true → toPy.toPys xs = some ps → toPy.toPys ys = some qs → PyData.eqvAll ps qs = eqQs xs ys := fun n h xs => by
    induction xs with
    | nil =>
      intro ys ps qs _ h1 h2
      rw [toPy.toPys] at h1
      cases h1
      cases ys with
      | nil => rw [toPy.toPys] at h2; cases h2; simp [PyData.eqvAll, eqQs]
      | cons y ys =>
        rw [toPy.toPys] at h2
        split at h2
        · cases h2; simp [PyData.eqvAll, eqQs]
        · cases h2
    | cons x xs ih =>
      intro ys ps qs h0 h1 h2
      rw [List.all_cons, Bool.and_eq_true] at h0
      rw [toPy.toPys] at h1
      split at h1
      · rename_i p ps' e1 e2
        cases h1
        cases ys with
        | nil => rw [toPy.toPys] at h2; cases h2; simp [PyData.eqvAll, eqQs]
        | cons y ys =>
          rw [toPy.toPys] at h2
          split at h2
          · rename_i q qs' e3 e4
            cases h2
            rw [PyData.eqvAll, eqQs, h x y p q h0.1 e1 e3, ih ys ps' qs' h0.2 e2 e4]
          · cases h2
      · cases h1
  intro n
  induction n with
  | zero =>
    intro a b p q h0 h1 h2
    cases a <;> first | (simp [okQ] at h0; done) | skip
    all_goals (simp only [toPy, Option.some.injEq] at h1; subst h1)
    all_goals cases b
    all_goals first
      | (simp only [toPy, Option.some.injEq] at h2; subst h2; simp [PyData.eqv, eqQ]; done)
      | (simp only [toPy, Option.map_eq_some_iff] at h2; obtain ⟨qs, _, h2⟩ := h2; subst h2; simp [PyData.eqv, eqQ]; done)
      | (simp [toPy] at h2; done)
  | succ n ih =>
    intro a b p q h0 h1 h2
    cases a <;> first | (simp [okQ] at h0; done) | skip
    all_goals first
      | (simp only [toPy, Option.some.injEq] at h1; subst h1)
      | (simp only [toPy, Option.map_eq_some_iff] at h1; obtain ⟨ps, e1, h1⟩ := h1; subst h1)
    all_goals cases b
    all_goals first
      | (simp only [toPy, Option.some.injEq] at h2; subst h2; simp [PyData.eqv, eqQ]; done)
      | (simp only [toPy, Option.map_eq_some_iff] at h2; obtain ⟨qs, e2, h2⟩ := h2; subst h2; first | (simp [PyData.eqv, eqQ]; done) | (rw [PyData.eqv, eqQ]; exact all n ih _ _ _ _ (by simpa [okQ] using h0) e1 e2))
      | (simp [toPy] at h2; done)
theorem eqS_ok {a b : D} (ha : okQ 64 a = true) (hb : okQ 64 b = true) : eqS a b = .ok (.bl (eqQ a b)) := by
  obtain ⟨p, h1, h2, h3⟩ := toPy_ok 64 a ha
  obtain ⟨q, h4, h5, h6⟩ := toPy_ok 64 b hb
  unfold eqS
  rw [h1, h4]
  have s1 : SeqAt.shaped p = true := by unfold SeqAt.shaped; rw [h2]; simpa using h3
  have s2 : SeqAt.shaped q = true := by unfold SeqAt.shaped; rw [h5]; simpa using h6
  simp only [s1, s2, and_self, if_true, eqv_eqQ 64 a b p q ha h1 h4]
theorem neS_ok {a b : D} (ha : okQ 64 a = true) (hb : okQ 64 b = true) : neS a b = .ok (.bl (!eqQ a b)) := by
  obtain ⟨p, h1, h2, h3⟩ := toPy_ok 64 a ha
  obtain ⟨q, h4, h5, h6⟩ := toPy_ok 64 b hb
  unfold neS
  rw [h1, h4]
  have s1 : SeqAt.shaped p = true := by unfold SeqAt.shaped; rw [h2]; simpa using h3
  have s2 : SeqAt.shaped q = true := by unfold SeqAt.shaped; rw [h5]; simpa using h6
  simp only [s1, s2, and_self, if_true, eqv_eqQ 64 a b p q ha h1 h4]
/-- a tuple, a list of whole numbers -/
noncomputable abbrev tuI (xs : List Int) : D := .tup (xs.map .int)
noncomputable abbrev liI (xs : List Int) : D := .lst (xs.map .int)
theorem okQ_ints (n : Nat) (xs : List Int) : (xs.map D.int).all (okQ n) = true := by
  rw [List.all_eq_true]
  intro x hx
  obtain ⟨i, _, rfl⟩ := List.mem_map.mp hx
  cases n <;> rfl
@[simp] theorem okQ_int (n : Nat) (i : Int) : okQ n (.int i) = true := by cases n <;> rfl
@[simp] theorem okQ_bl (n : Nat) (i : Bool) : okQ n (.bl i) = true := by cases n <;> rfl
@[simp] theorem okQ_non (n : Nat) : okQ n .non = true := by cases n <;> rfl
@[simp] theorem okQ_str (n : Nat) (s : Str) : okQ n (.str s) = PyData.strOk s := by cases n <;> rfl
@[simp] theorem okQ_tI (n : Nat) (xs : List Int) : okQ (n + 1) (tuI xs) = true := okQ_ints n xs
theorem eqQs_ints : ∀ xs ys : List Int, eqQs (xs.map D.int) (ys.map D.int) = decide (xs = ys)
  | [], [] => by simp [eqQs]
  | [], _ :: _ => by simp [eqQs]
  | _ :: _, [] => by simp [eqQs]
  | x :: xs, y :: ys => by
    rw [List.map_cons, List.map_cons, eqQs, eqQs_ints xs ys, eqQ]
    by_cases h : x = y <;> by_cases h2 : xs = ys <;> simp [h, h2]
@[simp] theorem eqS_int (i j : Int) : eqS (.int i) (.int j) = .ok (.bl (decide (i = j))) := by
  rw [eqS_ok (by simp) (by simp), eqQ]
  by_cases h : i = j <;> simp [h]
@[simp] theorem neS_int (i j : Int) : neS (.int i) (.int j) = .ok (.bl (!decide (i = j))) := by
  rw [neS_ok (by simp) (by simp), eqQ]
  by_cases h : i = j <;> simp [h]
@[simp] theorem addD_int (i j : Int) : addD (.int i) (.int j) = .ok (.int (i + j)) := rfl
@[simp] theorem subD_int (i j : Int) : subD (.int i) (.int j) = .ok (.int (i - j)) := rfl
theorem modD_ok {i j : Int} (h : 0 < j) : modD (.int i) (.int j) = .ok (.int (i % j)) := if_pos h
theorem bits_le {i : Int} (h : i.natAbs < 2 ^ 250) : bits i < 250 := by
  unfold bits
  by_cases h0 : i.natAbs = 0
  · rw [h0]; decide
  · exact (Nat.log2_lt h0).mpr h
theorem mulD_ok {i j : Int} (h1 : bits i < 250) (h2 : bits j < 250) : mulD (.int i) (.int j) = .ok (.int (i * j)) := by
  show (if bits i + bits j < 1000000 ∨ CMul i j then _ else _) = _
  rw [if_pos (.inl (by omega))]
theorem mulD_small {i j : Int} (h : CMul i j) : mulD (.int i) (.int j) = .ok (.int (i * j)) := by
  show (if bits i + bits j < 1000000 ∨ CMul i j then _ else _) = _
  rw [if_pos (.inr h)]
theorem divD_ok {i j : Int} (h : 0 < j) (h2 : bits j < 250) : divD (.int i) (.int j) = .ok (.int (i / j)) := if_pos ⟨h, by omega⟩
@[simp] theorem gtD_int (i j : Int) : gtD (.int i) (.int j) = .ok (.bl (decide (j < i))) := rfl
@[simp] theorem ltD_int (i j : Int) : ltD (.int i) (.int j) = .ok (.bl (decide (i < j))) := rfl
@[simp] theorem leD_int (i j : Int) : leD (.int i) (.int j) = .ok (.bl (decide (i ≤ j))) := rfl
@[simp] theorem geD_int (i j : Int) : geD (.int i) (.int j) = .ok (.bl (decide (j ≤ i))) := rfl
@[simp] theorem asB_bl (b : Bool) : asB (.bl b) = .ok b := rfl
@[simp] theorem getS0 (d : D) (r : Env) : getS 0 (.sh d :: r) = .ok d := rfl
@[simp] theorem getR0 (d : D) (r : Env) : getR 0 (.sh d :: r) = .ok d := rfl
@[simp] theorem getR0o (d : D) (r : Env) : getR 0 (.ow .flat d :: r) = .ok d := rfl
@[simp] theorem getS_succ (i : Nat) (x : Slot) (r : Env) : getS (i + 1) (x :: r) = getS i r := by simp [getS]
@[simp] theorem getR_succ (i : Nat) (x : Slot) (r : Env) : getR (i + 1) (x :: r) = getR i r := by simp [getR]
@[simp] theorem lenD_lst (xs : List D) : lenD (.lst xs) = .ok (.int xs.length) := rfl
@[simp] theorem lenD_tup (xs : List D) : lenD (.tup xs) = .ok (.int xs.length) := rfl
@[simp] theorem lenD_scr (xs : List Int) : lenD (.scr xs) = .ok (.int xs.length) := rfl
@[simp] theorem sumD_scr (xs : List Int) : sumD (.scr xs) = .ok (.int xs.sum) := rfl
@[simp] theorem seq_ite (c : Prop) [Decidable c] (a b : Oc) (g : Env → Oc) : (if c then a else b).seq g = if c then a.seq g else b.seq g := by split <;> rfl
/-- a number of at most sixty figures -/
theorem bits_60 {i : Int} (h1 : -(10 ^ 60) ≤ i) (h2 : i ≤ 10 ^ 60) : bits i < 250 := bits_le (Nat.lt_of_le_of_lt (show i.natAbs ≤ 10 ^ 60 by omega) (by decide))
theorem runD_rt {p n : Nat} {g : Env → Oc} {ds : List D} {d : D} (h : ds.length = p) (e : g (startD n ds) = .rt d) : runD p n g ds = .ok d := by
  unfold runD
  rw [if_pos h, e]
theorem runD_nx {p n : Nat} {g : Env → Oc} {ds : List D} {r : Env} (h : ds.length = p) (e : g (startD n ds) = .nx r) : runD p n g ds = .ok .non := by
  unfold runD
  rw [if_pos h, e]
theorem runD_er {p n : Nat} {g : Env → Oc} {ds : List D} {r : Env} {d : D} (h : ds.length = p) (e : g (startD n ds) = .er d r) : runD p n g ds = .er d := by
  unfold runD
  rw [if_pos h, e]
theorem lcD_map {g : D → Env → Res Env} {t : Env → Res Bool} {f : Env → Res D} {r : Env} (F : D → D) : ∀ {ds : List D}, (∀ d ∈ ds, ∃ r1, g d r = .ok r1 ∧ t r1 = .ok true ∧ f r1 = .ok (F d)) → lcD g t f r ds = .ok (ds.map F)
  | [], _ => rfl
  | d :: ds, h => by
    obtain ⟨r1, h1, h2, h3⟩ := h d List.mem_cons_self
    rw [lcD, h1]
    simp only [nE_ok, ok_bind, h2, if_true, h3, lcD_map F fun d hd => h d (List.mem_cons_of_mem _ hd)]
    rfl
theorem forD_ix {f : D → Env → Oc} {ds : List D} (P : Nat → Env → Prop) (h : ∀ i d, ds[i]? = some d → ∀ r, P i r → ∃ r', f d r = .nx r' ∧ P (i + 1) r') {r : Env} (h0 : P 0 r) : ∃ r', forD f ds r = .nx r' ∧ P ds.length r' := by
  have go : ∀ (ds : List D) (k : Nat) (r : Env), (∀ i d, ds[i]? = some d → ∀ r, P (k + i) r → ∃ r', f d r = .nx r' ∧ P (k + i + 1) r') → P k r → ∃ r', forD f ds r = .nx r' ∧ P (k + ds.length) r' := fun ds => by
    induction ds with
    | nil => exact fun k r _ h0 => ⟨r, rfl, h0⟩
    | cons d ds ih =>
      intro k r h h0
      obtain ⟨r1, h1, h2⟩ := h 0 d rfl r h0
      obtain ⟨r2, h3, h4⟩ := ih (k + 1) r1 (fun i e he r hr => by
        have z := h (i + 1) e (by simpa using he) r (by rw [show k + (i + 1) = k + 1 + i by omega]; exact hr)
        rw [show k + (i + 1) + 1 = k + 1 + i + 1 by omega] at z
        exact z) h2
      refine ⟨r2, ?_, by rw [List.length_cons, show k + (ds.length + 1) = k + 1 + ds.length by omega]; exact h4⟩
      rw [forD_cons, h1]
      exact h3
  obtain ⟨r', h1, h2⟩ := go ds 0 r (fun i d hd r hr => by
    rw [Nat.zero_add] at hr ⊢
    exact h i d hd r hr) h0
  exact ⟨r', h1, by rw [Nat.zero_add] at h2; exact h2⟩
/-- each turn goes on, P stays -/
theorem forD_all {f : D → Env → Oc} {ds : List D} (P : Env → Prop) (h : ∀ d ∈ ds, ∀ r, P r → ∃ r', f d r = .nx r' ∧ P r') {r : Env} (h0 : P r) : ∃ r', forD f ds r = .nx r' ∧ P r' :=
  forD_ix (fun _ => P) (fun i d hd r hr => h d (List.mem_of_getElem? hd) r hr) h0
@[simp] theorem rangeL_zero (lo : Int) : rangeL lo 0 = [] := rfl
theorem rng1_ok {n : Int} (h0 : -1000000000 ≤ n) (h1 : n ≤ 1000000000) : rng1 [.int n] = .ok (rangeL 0 n.toNat) := if_pos ⟨h0, h1⟩
theorem rng2_ok {m n : Int} (h0 : -1000000000 ≤ m) (h1 : m ≤ 1000000000) (h2 : -1000000000 ≤ n) (h3 : n ≤ 1000000000) : rng2 [.int m, .int n] = .ok (rangeL m (n - m).toNat) := if_pos ⟨⟨h0, h1⟩, h2, h3⟩
@[simp] theorem rangeL_len (lo : Int) (n : Nat) : (rangeL lo n).length = n := by simp [rangeL]
end Mir
namespace Mir
open PySem PySem.Spec PyProof.Rows L2
variable [Tn]
noncomputable def SIt (h : Heap) (k : Bool) (it l : Addr) (i : Nat) : Prop := match k with
  | true => h.IsListIter it l i
  | false => h.IsTupleIter it l i
noncomputable def SSrc (h : Heap) (k : Bool) (l : Addr) (items : Array Value) : Prop := match k with
  | true => h.IsList l items
  | false => h.IsTuple l items
noncomputable def clsI : Bool → String
  | true => "list_iterator"
  | false => "tuple_iterator"
theorem SIt.at {h h' : Heap} {k : Bool} {it l : Addr} {i : Nat} (x : SIt h k it l i) (f : ∀ o, h.get? it = some o → h'.get? it = some o) : SIt h' k it l i := by
  cases k with
  | true => exact Heap.IsListIter.at (show h.IsListIter it l i from x) f
  | false => exact Heap.IsTupleIter.at (show h.IsTupleIter it l i from x) f
theorem SIt.ob {h : Heap} {k : Bool} {it l : Addr} {i : Nat} (x : SIt h k it l i) : ∃ o, h.get? it = some o ∧ ∀ v, o.data ≠ .cell v := by
  cases k with
  | true =>
    obtain ⟨o, e, _, d⟩ := (show h.IsListIter it l i from x)
    exact ⟨o, e, fun v q => by rw [d] at q; cases q⟩
  | false =>
    obtain ⟨o, e, _, d⟩ := (show h.IsTupleIter it l i from x)
    exact ⟨o, e, fun v q => by rw [d] at q; cases q⟩
theorem SIt.lt {h : Heap} {k : Bool} {it l : Addr} {i : Nat} (x : SIt h k it l i) : it < h.objs.size := let ⟨_, e, _⟩ := x.ob; Heap.lt_size e
theorem SSrc.at {h h' : Heap} {k : Bool} {l : Addr} {xs : Array Value} (x : SSrc h k l xs) (f : ∀ o, h.get? l = some o → h'.get? l = some o) : SSrc h' k l xs := by
  cases k with
  | true => exact Heap.IsList.at (show h.IsList l xs from x) f
  | false =>
    obtain ⟨o, e, r⟩ := (show h.IsTuple l xs from x)
    exact ⟨o, f o e, r⟩
theorem SSrc.lt {h : Heap} {k : Bool} {l : Addr} {xs : Array Value} (x : SSrc h k l xs) : l < h.objs.size := by
  cases k with
  | true =>
    obtain ⟨o, e, _⟩ := (show h.IsList l xs from x)
    exact Heap.lt_size e
  | false =>
    obtain ⟨o, e, _⟩ := (show h.IsTuple l xs from x)
    exact Heap.lt_size e
noncomputable abbrev IsT (h : Heap) (T : Addr) (vs : Array Value) : Prop := h.get? T = some { cls := .type "tuple", data := .seq vs }
section
variable {prog : Program} {w : World} {A : Around} {E : Value → Shared → Prop} {s : Shared}
theorem nextS_item {k : Bool} {it l : Addr} {i : Nat} {items : Array Value} {x : Value} {Q : Value → Shared → Prop} (hit : SIt s.heap k it l i) (hl : SSrc s.heap k l items) (hx : items[i]? = some x)
    (hQ : ∀ h', SIt h' k it l (i + 1) → Heap.SameBut it s.heap h' → Q x { s with heap := h' }) : wpAny (model prog w) A (Builtin.SmallTypes.nextOf (.ref it)) Q E s := by
  cases k with
  | true => exact wpAny_nextOf_list_item hit hl hx hQ
  | false => exact RZ.nextOf_tuple_item hit hl hx hQ
theorem nextS_end {k : Bool} {it l : Addr} {i : Nat} {items : Array Value} {Q : Value → Shared → Prop} (hh : A.handled = none) (hit : SIt s.heap k it l i) (hl : SSrc s.heap k l items) (hx : items[i]? = none)
    (hE : ∀ h' e, Heap.ExtBut it s.heap h' → (∃ o, h'.get? e = some o ∧ o.cls = .type "StopIteration") → E (.ref e) { s with heap := h' }) : wpAny (model prog w) A (Builtin.SmallTypes.nextOf (.ref it)) Q E s := by
  cases k with
  | true => exact wpAny_nextOf_list_end hh hit hl hx hE
  | false => exact RZ.nextOf_tuple_end hh hit hl hx hE
theorem updT {T : Addr} {vs : Array Value} {x : Value} {k : Nat} {Q : Unit → Shared → Prop} (hT : IsT s.heap T vs) (hs : vs.size ≤ 3) (h : ∀ h', IsT h' T (vs.setIfInBounds k x) → Heap.SameBut T s.heap h' → Q () { s with heap := h' }) :
    wpAny (model prog w) A (updateSeq T (·.setIfInBounds k x)) Q E s := by
  have hl : vs.size ≤ sizeLine := Nat.le_trans hs (by rw [sizeLine_eq]; decide)
  refine wpAny_updateSeq hT rfl (hz := hl) (_hz' := by simpa using Nat.le_succ_of_le hl) (h _ ?_ (Heap.SameBut.update ..))
  show Heap.get? _ _ = _
  rw [Heap.get?_update_self _ hT rfl]
  simp [Obj.mapSeq]
theorem iterS {k : Bool} {l : Addr} {items : Array Value} {Q : Value → Shared → Prop} (hl : SSrc s.heap k l items) (h : Q (.ref s.heap.objs.size) { s with heap := s.heap.push { cls := .type (clsI k), data := .fields #[.ref l, .int 0 0] } }) :
    wpAny (model prog w) A (pyIter (.ref l)) Q E s := by
  cases k with
  | true => exact wpAny_pyIter_list hl h
  | false => exact wpAny_pyIter_tuple hl h
end
structure ZA2 (z TI TO i1 i2 l1 l2 : Addr) : Prop where
  TIz : TI ≠ z
  TOz : TO ≠ z
  TITO : TI ≠ TO
  i1z : i1 ≠ z
  TIi1 : TI ≠ i1
  TOi1 : TO ≠ i1
  l1z : l1 ≠ z
  l1TO : l1 ≠ TO
  l1i1 : l1 ≠ i1
  l1i2 : l1 ≠ i2
  i1i2 : i1 ≠ i2
  i2z : i2 ≠ z
  TIi2 : TI ≠ i2
  TOi2 : TO ≠ i2
  l2z : l2 ≠ z
  l2TO : l2 ≠ TO
  l2i1 : l2 ≠ i1
  l2i2 : l2 ≠ i2
section
variable {prog : Program} {w : World} {A : Around} {E : Value → Shared → Prop} {s : Shared}
theorem zip2_item {z TI TO i1 i2 l1 l2 : Addr} {k1 k2 : Bool} {p : Nat} {xs1 xs2 : Array Value} {x1 x2 o1 o2 : Value} {Q : Value → Shared → Prop} (D : ZA2 z TI TO i1 i2 l1 l2) (hz : IsZip s.heap z TI TO .none) (hTI : IsT s.heap TI #[.ref i1, .ref i2]) (hTO : IsT s.heap TO #[o1, o2]) (h1 : SIt s.heap k1 i1 l1 p) (hl1 : SSrc s.heap k1 l1 xs1) (h2 : SIt s.heap k2 i2 l2 p) (hl2 : SSrc s.heap k2 l2 xs2) (hx1 : xs1[p]? = some x1) (hx2 : xs2[p]? = some x2)
    (hQ : ∀ h', IsZip h' z TI TO (rawInt s.heap.objs.size) → IsT h' TO #[x1, x2] → SIt h' k1 i1 l1 (p + 1) → SIt h' k2 i2 l2 (p + 1) → IsT h' s.heap.objs.size #[x1, x2] → h'.objs.size = s.heap.objs.size + 1 → (∀ c o, c ≠ z → c ≠ TO → c ≠ i1 → c ≠ i2 → s.heap.get? c = some o → h'.get? c = some o) → Q (.ref s.heap.objs.size) { s with heap := h' }) :
    wpAny (model prog w) A (Builtin.«zip.__next__» ⟨[.ref z], []⟩) (fun fin s' => ∃ v, fin = .done (.ret v) ∧ Q v s') E s := by
  show wpAny _ _ (field (.ref z) 2 >>= _) _ _ _
  refine wpAny_bind (wpAny_field hz rfl (x := .bool false) rfl ?_)
  show wpAny _ _ (field (.ref z) 3 >>= _) _ _ _
  refine wpAny_bind (wpAny_field hz rfl (x := .ref TI) rfl ?_)
  refine wpAny_bind (wpAny_seqItems hTI rfl ?_)
  show wpAny _ _ (Builtin.SmallTypes.ownedTupleIsFree (.ref z) >>= _) _ _ _
  refine wpAny_bind ?_
  unfold Builtin.SmallTypes.ownedTupleIsFree
  refine wpAny_bind (wpAny_field hz rfl (x := .none) rfl (wpAny_pure ?_))
  simp only [if_true]
  refine wpAny_bind (wpAny_rule ?_)
  refine wpAny_bind (wpAny_field hz rfl (x := .ref TO) rfl ?_)
  refine wpAny_bind (wpAny_setField_rec hz (by simp) fun g0 zz0 s0 => ?_)
  replace zz0 : IsZip g0 z TI TO .ellipsis := zz0
  have K0 : ∀ c o, c ≠ z → s.heap.get? c = some o → g0.get? c = some o := fun c o c1 e => s0.extBut _ _ c1 e
  have T0 : IsT g0 TO #[o1, o2] := K0 _ _ D.TOz hTO
  have Z0 : g0.objs.size = s.heap.objs.size := s0.1
  refine wpAny_bind ?_
  simp only [List.zipIdx_cons, List.zipIdx_nil, List.forIn_cons, List.forIn_nil]
  refine wpAny_bind (wpAny_bind (wpAny_onRaise ?_))
  show wpAny _ _ (Builtin.SmallTypes.nextOf (.ref i1) >>= _) _ _ _
  have I1 : SIt g0 k1 i1 l1 p := h1.at fun o e => K0 _ o (D.i1z) e
  have L1 : SSrc g0 k1 l1 xs1 := hl1.at fun o e => K0 _ o (D.l1z) e
  refine wpAny_bind (nextS_item I1 L1 hx1 fun a1 n1 sa1 => wpAny_pure ?_)
  have Ta1 : IsT a1 TO #[o1, o2] := sa1.extBut _ _ (D.TOi1) T0
  refine wpAny_bind (wpAny_seqItems Ta1 rfl ?_)
  refine wpAny_bind (updT Ta1 (by simp) fun g1 T1 st1 => ?_)
  replace T1 : IsT g1 TO #[x1, o2] := T1
  have K1 : ∀ c o, c ≠ z → c ≠ TO → c ≠ i1 → s.heap.get? c = some o → g1.get? c = some o := fun c o c0 c1 c2 e => st1.extBut _ _ c1 (sa1.extBut _ _ c2 (K0 c o c0 e))
  have zz1 : IsZip g1 z TI TO .ellipsis := st1.extBut _ _ (D.TOz.symm) (sa1.extBut _ _ (D.i1z.symm) zz0)
  have Z1 : g1.objs.size = s.heap.objs.size := by rw [st1.1, sa1.1, Z0]
  have N1_1 : SIt g1 k1 i1 l1 (p + 1) := n1.at fun o e => st1.extBut _ _ (D.TOi1.symm) e
  refine wpAny_bind (wpAny_letGo (wpAny_pure ?_))
  refine wpAny_bind (wpAny_bind (wpAny_onRaise ?_))
  show wpAny _ _ (Builtin.SmallTypes.nextOf (.ref i2) >>= _) _ _ _
  have I2 : SIt g1 k2 i2 l2 p := h2.at fun o e => K1 _ o (D.i2z) (D.TOi2.symm) (D.i1i2.symm) e
  have L2 : SSrc g1 k2 l2 xs2 := hl2.at fun o e => K1 _ o (D.l2z) (D.l2TO) (D.l2i1) e
  refine wpAny_bind (nextS_item I2 L2 hx2 fun a2 n2 sa2 => wpAny_pure ?_)
  have Ta2 : IsT a2 TO #[x1, o2] := sa2.extBut _ _ (D.TOi2) T1
  refine wpAny_bind (wpAny_seqItems Ta2 rfl ?_)
  refine wpAny_bind (updT Ta2 (by simp) fun g2 T2 st2 => ?_)
  replace T2 : IsT g2 TO #[x1, x2] := T2
  have K2 : ∀ c o, c ≠ z → c ≠ TO → c ≠ i1 → c ≠ i2 → s.heap.get? c = some o → g2.get? c = some o := fun c o c0 c1 c2 c3 e => st2.extBut _ _ c1 (sa2.extBut _ _ c3 (K1 c o c0 c1 c2 e))
  have zz2 : IsZip g2 z TI TO .ellipsis := st2.extBut _ _ (D.TOz.symm) (sa2.extBut _ _ (D.i2z.symm) zz1)
  have Z2 : g2.objs.size = s.heap.objs.size := by rw [st2.1, sa2.1, Z1]
  have N2_2 : SIt g2 k2 i2 l2 (p + 1) := n2.at fun o e => st2.extBut _ _ (D.TOi2.symm) e
  have N1_2 : SIt g2 k1 i1 l1 (p + 1) := N1_1.at fun o e => st2.extBut _ _ (D.TOi1.symm) (sa2.extBut _ _ (D.i1i2) e)
  refine wpAny_bind (wpAny_letGo (wpAny_pure (wpAny_pure ?_)))
  refine wpAny_bind (wpAny_seqItems T2 rfl ?_)
  refine wpAny_bind (wpAny_newTuple ?_)
  show wpAny _ _ (Builtin.SmallTypes.ownedTupleHandOut (.ref z) (.ref g2.objs.size) >>= _) _ _ _
  refine wpAny_bind ?_
  unfold Builtin.SmallTypes.ownedTupleHandOut
  have hzl : z < g2.objs.size := Heap.lt_size zz2
  have zp : IsZip (g2.push { cls := .type "tuple", data := .seq #[x1, x2] }) z TI TO .ellipsis := Heap.get?_push_of_some _ zz2
  refine wpAny_bind (wpAny_setField_rec zp (by simp) fun e7 z7 s7 => ?_)
  replace z7 : IsZip e7 z TI TO (rawInt g2.objs.size) := z7
  refine wpAny_setField_rec z7 (by simp) fun e8 z8 s8 => ?_
  replace z8 : IsZip e8 z TI TO (rawInt g2.objs.size) := z8
  have up : ∀ c o, c ≠ z → g2.get? c = some o → e8.get? c = some o := fun c o c1 e => s8.extBut _ _ c1 (s7.extBut _ _ c1 (Heap.get?_push_of_some _ e))
  have t8 : IsT e8 g2.objs.size #[x1, x2] := s8.extBut _ _ (Nat.ne_of_gt hzl) (s7.extBut _ _ (Nat.ne_of_gt hzl) (Heap.get?_push_size _ rfl))
  have y8 : e8.objs.size = g2.objs.size + 1 := by rw [s8.1, s7.1, Heap.size_push]
  rw [Z2] at z8 t8 y8
  refine wpAny_pure ⟨_, rfl, ?_⟩
  show Q (.ref g2.objs.size) _
  rw [Z2]
  exact hQ e8 z8 (up _ _ D.TOz T2) (N1_2.at fun o e => up _ o D.i1z e) (N2_2.at fun o e => up _ o D.i2z e) t8 y8 fun c o c0 c1 c2 c3 e => up c o c0 (K2 c o c0 c1 c2 c3 e)
theorem zip2_end {z TI TO i1 i2 l1 l2 : Addr} {k1 k2 : Bool} {p : Nat} {xs1 xs2 : Array Value} {o1 o2 : Value} {Q : Fin → Shared → Prop} (hh : A.handled = none) (D : ZA2 z TI TO i1 i2 l1 l2) (hz : IsZip s.heap z TI TO .none) (hTI : IsT s.heap TI #[.ref i1, .ref i2]) (hTO : IsT s.heap TO #[o1, o2]) (h1 : SIt s.heap k1 i1 l1 p) (hl1 : SSrc s.heap k1 l1 xs1) (h2 : SIt s.heap k2 i2 l2 p) (hl2 : SSrc s.heap k2 l2 xs2) (hend : xs1[p]? = none ∨ xs2[p]? = none)
    (hE : ∀ h' e, (∀ c o, c ≠ z → c ≠ TO → c ≠ i1 → c ≠ i2 → s.heap.get? c = some o → h'.get? c = some o) → (∃ o, h'.get? e = some o ∧ o.cls = .type "StopIteration") → E (.ref e) { s with heap := h' }) :
    wpAny (model prog w) A (Builtin.«zip.__next__» ⟨[.ref z], []⟩) Q E s := by
  show wpAny _ _ (field (.ref z) 2 >>= _) _ _ _
  refine wpAny_bind (wpAny_field hz rfl (x := .bool false) rfl ?_)
  show wpAny _ _ (field (.ref z) 3 >>= _) _ _ _
  refine wpAny_bind (wpAny_field hz rfl (x := .ref TI) rfl ?_)
  refine wpAny_bind (wpAny_seqItems hTI rfl ?_)
  show wpAny _ _ (Builtin.SmallTypes.ownedTupleIsFree (.ref z) >>= _) _ _ _
  refine wpAny_bind ?_
  unfold Builtin.SmallTypes.ownedTupleIsFree
  refine wpAny_bind (wpAny_field hz rfl (x := .none) rfl (wpAny_pure ?_))
  simp only [if_true]
  refine wpAny_bind (wpAny_rule ?_)
  refine wpAny_bind (wpAny_field hz rfl (x := .ref TO) rfl ?_)
  refine wpAny_bind (wpAny_setField_rec hz (by simp) fun g0 zz0 s0 => ?_)
  replace zz0 : IsZip g0 z TI TO .ellipsis := zz0
  have K0 : ∀ c o, c ≠ z → s.heap.get? c = some o → g0.get? c = some o := fun c o c1 e => s0.extBut _ _ c1 e
  have T0 : IsT g0 TO #[o1, o2] := K0 _ _ D.TOz hTO
  have Z0 : g0.objs.size = s.heap.objs.size := s0.1
  refine wpAny_bind ?_
  simp only [List.zipIdx_cons, List.zipIdx_nil, List.forIn_cons, List.forIn_nil]
  refine wpAny_bind (wpAny_bind (wpAny_onRaise ?_))
  show wpAny _ _ (Builtin.SmallTypes.nextOf (.ref i1) >>= _) _ _ _
  have I1 : SIt g0 k1 i1 l1 p := h1.at fun o e => K0 _ o (D.i1z) e
  have L1 : SSrc g0 k1 l1 xs1 := hl1.at fun o e => K0 _ o (D.l1z) e
  cases hx1 : xs1[p]? with
  | none =>
    refine wpAny_bind (nextS_end hh I1 L1 hx1 fun ae e xe he => ?_)
    obtain ⟨oe, hoe, hce⟩ := he
    have ze : IsZip ae z TI TO .ellipsis := xe _ _ (D.i1z.symm) zz0
    have hez : e ≠ z := fun q => by subst q; rw [ze] at hoe; cases hoe; simp at hce
    refine wpAny_setField_rec ze (by simp) fun be _ sb => hE be e (fun c o c0 c1 c2 c3 q => sb.extBut _ _ c0 (xe _ _ c2 (K0 c o c0 q))) ⟨oe, sb.extBut _ _ hez hoe, hce⟩
  | some x1 =>
    refine wpAny_bind (nextS_item I1 L1 hx1 fun a1 n1 sa1 => wpAny_pure ?_)
    have Ta1 : IsT a1 TO #[o1, o2] := sa1.extBut _ _ (D.TOi1) T0
    refine wpAny_bind (wpAny_seqItems Ta1 rfl ?_)
    refine wpAny_bind (updT Ta1 (by simp) fun g1 T1 st1 => ?_)
    replace T1 : IsT g1 TO #[x1, o2] := T1
    have K1 : ∀ c o, c ≠ z → c ≠ TO → c ≠ i1 → s.heap.get? c = some o → g1.get? c = some o := fun c o c0 c1 c2 e => st1.extBut _ _ c1 (sa1.extBut _ _ c2 (K0 c o c0 e))
    have zz1 : IsZip g1 z TI TO .ellipsis := st1.extBut _ _ (D.TOz.symm) (sa1.extBut _ _ (D.i1z.symm) zz0)
    have Z1 : g1.objs.size = s.heap.objs.size := by rw [st1.1, sa1.1, Z0]
    have N1_1 : SIt g1 k1 i1 l1 (p + 1) := n1.at fun o e => st1.extBut _ _ (D.TOi1.symm) e
    refine wpAny_bind (wpAny_letGo (wpAny_pure ?_))
    refine wpAny_bind (wpAny_bind (wpAny_onRaise ?_))
    show wpAny _ _ (Builtin.SmallTypes.nextOf (.ref i2) >>= _) _ _ _
    have I2 : SIt g1 k2 i2 l2 p := h2.at fun o e => K1 _ o (D.i2z) (D.TOi2.symm) (D.i1i2.symm) e
    have L2 : SSrc g1 k2 l2 xs2 := hl2.at fun o e => K1 _ o (D.l2z) (D.l2TO) (D.l2i1) e
    cases hx2 : xs2[p]? with
    | none =>
      refine wpAny_bind (nextS_end hh I2 L2 hx2 fun ae e xe he => ?_)
      obtain ⟨oe, hoe, hce⟩ := he
      have ze : IsZip ae z TI TO .ellipsis := xe _ _ (D.i2z.symm) zz1
      have hez : e ≠ z := fun q => by subst q; rw [ze] at hoe; cases hoe; simp at hce
      refine wpAny_setField_rec ze (by simp) fun be _ sb => hE be e (fun c o c0 c1 c2 c3 q => sb.extBut _ _ c0 (xe _ _ c3 (K1 c o c0 c1 c2 q))) ⟨oe, sb.extBut _ _ hez hoe, hce⟩
    | some x2 =>
      rcases hend with q | q
      · rw [hx1] at q; cases q
      · rw [hx2] at q; cases q
theorem pyNext_zip2 {z TI TO i1 i2 l1 l2 : Addr} {k1 k2 : Bool} {p : Nat} {xs1 xs2 : Array Value} {x1 x2 o1 o2 : Value} {Q : Option Value → Shared → Prop} (D : ZA2 z TI TO i1 i2 l1 l2) (hz : IsZip s.heap z TI TO .none) (hTI : IsT s.heap TI #[.ref i1, .ref i2]) (hTO : IsT s.heap TO #[o1, o2]) (h1 : SIt s.heap k1 i1 l1 p) (hl1 : SSrc s.heap k1 l1 xs1) (h2 : SIt s.heap k2 i2 l2 p) (hl2 : SSrc s.heap k2 l2 xs2) (hx1 : xs1[p]? = some x1) (hx2 : xs2[p]? = some x2)
    (hQ : ∀ h', IsZip h' z TI TO (rawInt s.heap.objs.size) → IsT h' TO #[x1, x2] → SIt h' k1 i1 l1 (p + 1) → SIt h' k2 i2 l2 (p + 1) → IsT h' s.heap.objs.size #[x1, x2] → h'.objs.size = s.heap.objs.size + 1 → (∀ c o, c ≠ z → c ≠ TO → c ≠ i1 → c ≠ i2 → s.heap.get? c = some o → h'.get? c = some o) → Q (some (.ref s.heap.objs.size)) { s with heap := h' }) :
    wpAny (model prog w) A (pyNext (.ref z)) Q E s := by
  have hT : s.TypeIs (.ref z) "zip" := ⟨_, hz, rfl⟩
  unfold pyNext
  exact wpAny_bind (wpAny_attempt (wpAny_callSpecial?_slot (name := Str.ofString "__next__") hT F.slot_zip_next (wpAny_call_entry F.slot_zip_next hT F.entry_zip_next (zip2_item D hz hTI hTO h1 hl1 h2 hl2 hx1 hx2 fun h' a0 a1 a2 a3 a4 a5 a6 => wpAny_pure (hQ h' a0 a1 a2 a3 a4 a5 a6)) (F.args_zip_next_1 _))))
theorem pyNext_zip2_end {z TI TO i1 i2 l1 l2 : Addr} {k1 k2 : Bool} {p : Nat} {xs1 xs2 : Array Value} {o1 o2 : Value} {Q : Option Value → Shared → Prop} (hh : A.handled = none) (D : ZA2 z TI TO i1 i2 l1 l2) (hz : IsZip s.heap z TI TO .none) (hTI : IsT s.heap TI #[.ref i1, .ref i2]) (hTO : IsT s.heap TO #[o1, o2]) (h1 : SIt s.heap k1 i1 l1 p) (hl1 : SSrc s.heap k1 l1 xs1) (h2 : SIt s.heap k2 i2 l2 p) (hl2 : SSrc s.heap k2 l2 xs2) (hend : xs1[p]? = none ∨ xs2[p]? = none)
    (hQ : ∀ h', (∀ c o, c ≠ z → c ≠ TO → c ≠ i1 → c ≠ i2 → s.heap.get? c = some o → h'.get? c = some o) → Q none { s with heap := h' }) : wpAny (model prog w) A (pyNext (.ref z)) Q E s := by
  have hT : s.TypeIs (.ref z) "zip" := ⟨_, hz, rfl⟩
  unfold pyNext
  refine wpAny_bind (wpAny_attempt (wpAny_callSpecial?_slot (name := Str.ofString "__next__") hT F.slot_zip_next (wpAny_call_entry F.slot_zip_next hT F.entry_zip_next (zip2_end hh D hz hTI hTO h1 hl1 h2 hl2 hend fun h' e hk he => ?_) (F.args_zip_next_1 _))))
  obtain ⟨o, ho, hc⟩ := he
  refine wpAny_bind (wpAny_isInstance (T := "StopIteration") (b := true) ⟨o, ho, hc⟩ isSubtype_stop ?_)
  exact wpAny_pure (hQ _ hk)
end
noncomputable abbrev zH2_1 (h : Heap) (k1 : Bool) (l1 : Addr) : Heap := h.push { cls := .type (clsI k1), data := .fields #[.ref l1, .int 0 0] }
noncomputable abbrev zH2_2 (h : Heap) (k1 k2 : Bool) (l1 l2 : Addr) : Heap := (zH2_1 h k1 l1).push { cls := .type (clsI k2), data := .fields #[.ref l2, .int 0 0] }
noncomputable abbrev zH2_T (h : Heap) (k1 k2 : Bool) (l1 l2 : Addr) : Heap := (zH2_2 h k1 k2 l1 l2).push { cls := .type "tuple", data := .seq #[.ref h.objs.size, .ref (zH2_1 h k1 l1).objs.size] }
noncomputable abbrev zH2_O (h : Heap) (k1 k2 : Bool) (l1 l2 : Addr) : Heap := (zH2_T h k1 k2 l1 l2).push { cls := .type "tuple", data := .seq #[.none, .none] }
noncomputable abbrev zH2_Z (h : Heap) (k1 k2 : Bool) (l1 l2 : Addr) : Heap := (zH2_O h k1 k2 l1 l2).push { cls := .type "zip", data := .fields #[.none, .bool false, .bool false, .ref (zH2_2 h k1 k2 l1 l2).objs.size, .ref (zH2_T h k1 k2 l1 l2).objs.size] }
theorem meets_zip2 (k1 k2 : Bool) (l1 l2 : Addr) (xs1 xs2 : Array Value) :
    Meets (Builtin.«zip.__new__» ⟨[.type "zip", .ref l1, .ref l2], []⟩) (fun _ R s => (SSrc s.heap k1 l1 xs1 ∧ SSrc s.heap k2 l2 xs2) ∧ R (.ok (.ret (.ref (zH2_O s.heap k1 k2 l1 l2).objs.size))) { s with heap := zH2_Z s.heap k1 k2 l1 l2 }) :=
  .of_wp fun prog w A R s h => by
    obtain ⟨hp, g, d, tk, os⟩ := s; obtain ⟨⟨hl1, hl2⟩, h⟩ := h
    have hsub := sub_zip
    have M1 : SSrc (Shared.heap ⟨hp, g, d, tk, os⟩) k1 l1 xs1 := hl1
    have M2 : SSrc (Shared.heap ⟨(hp.push { cls := .type (clsI k1), data := .fields #[.ref l1, .int 0 0] }), g, d, tk, os⟩) k2 l2 xs2 := hl2.at fun o e => Heap.get?_push_of_some _ (e)
    wp_walk using iterS M1, iterS M2
    exact ⟨_, rfl, h⟩
theorem tc_zip2 (a1 a2 : Value) : checkTypeCall "zip" ⟨[a1, a2], []⟩ = pure () := F.typeCall_zip_2 a1 a2
theorem nc_zip2 (a1 a2 : Value) : checkBuiltinCall "zip.__new__" ⟨[.type "zip", a1, a2], []⟩ = pure () := F.newCall_zip_2 a1 a2
theorem ai_zip2 (b a1 a2 : Value) : argsOk "object.__init__" ⟨[b, a1, a2], []⟩ := F.args_object_init_3 b a1 a2
section
variable {prog : Program} {w : World} {A : Around} {E : Value → Shared → Prop} {s : Shared}
theorem call_zip2 {k1 k2 : Bool} {l1 l2 : Addr} {xs1 xs2 : Array Value} {Q : Value → Shared → Prop} (hl1 : SSrc s.heap k1 l1 xs1) (hl2 : SSrc s.heap k2 l2 xs2)
    (h : ∀ h', IsZip h' (s.heap.objs.size + 4) (s.heap.objs.size + 2) (s.heap.objs.size + 3) .none → IsT h' (s.heap.objs.size + 2) #[.ref s.heap.objs.size, .ref (s.heap.objs.size + 1)] → IsT h' (s.heap.objs.size + 3) #[.none, .none] → SIt h' k1 s.heap.objs.size l1 0 → SIt h' k2 (s.heap.objs.size + 1) l2 0 → (∀ c o, s.heap.get? c = some o → h'.get? c = some o) → Q (.ref (s.heap.objs.size + 4)) { s with heap := h' }) :
    wpAny (model prog w) A (call (.type "zip") [.ref l1, .ref l2]) Q E s := by
  refine callType_new F.called_zip (by decide) (tc_zip2 _ _ ) (nc_zip2 _ _ ) (fun obj => ai_zip2 obj _ _ ) F.entry_zip_new (meets_zip2 k1 k2 l1 l2 xs1 xs2) ⟨⟨hl1, hl2⟩, ?_⟩
  have y1 : (zH2_1 s.heap k1 l1).objs.size = s.heap.objs.size + 1 := Heap.size_push ..
  have y2 : (zH2_2 s.heap k1 k2 l1 l2).objs.size = s.heap.objs.size + 2 := by rw [Heap.size_push, y1]
  have y3 : (zH2_T s.heap k1 k2 l1 l2).objs.size = s.heap.objs.size + 3 := by rw [Heap.size_push, y2]
  have y4 : (zH2_O s.heap k1 k2 l1 l2).objs.size = s.heap.objs.size + 4 := by rw [Heap.size_push, y3]
  have q0 : (zH2_Z s.heap k1 k2 l1 l2).get? s.heap.objs.size = some _ := Heap.get?_push_of_some _ (Heap.get?_push_of_some _ (Heap.get?_push_of_some _ (Heap.get?_push_of_some _ (Heap.get?_push_size _ rfl))))
  have q1 : (zH2_Z s.heap k1 k2 l1 l2).get? (zH2_1 s.heap k1 l1).objs.size = some _ := Heap.get?_push_of_some _ (Heap.get?_push_of_some _ (Heap.get?_push_of_some _ (Heap.get?_push_size _ rfl)))
  have q2 : (zH2_Z s.heap k1 k2 l1 l2).get? (zH2_2 s.heap k1 k2 l1 l2).objs.size = some _ := Heap.get?_push_of_some _ (Heap.get?_push_of_some _ (Heap.get?_push_size _ rfl))
  have q3 : (zH2_Z s.heap k1 k2 l1 l2).get? (zH2_T s.heap k1 k2 l1 l2).objs.size = some _ := Heap.get?_push_of_some _ (Heap.get?_push_size _ rfl)
  have q4 : (zH2_Z s.heap k1 k2 l1 l2).get? (zH2_O s.heap k1 k2 l1 l2).objs.size = some _ := Heap.get?_push_size _ rfl
  show _ ∧ _
  rw [y1] at q1
  rw [y1, y2] at q2
  rw [y3] at q3
  rw [y2, y3, y4] at q4
  rw [y4]
  exact ⟨⟨_, q4, rfl⟩, h _ q4 q2 q3 (show SIt _ k1 _ l1 0 by cases k1 <;> exact ⟨_, q0, rfl, rfl⟩) (show SIt _ k2 _ l2 0 by cases k2 <;> exact ⟨_, q1, rfl, rfl⟩) fun c o x => Heap.get?_push_of_some _ (Heap.get?_push_of_some _ (Heap.get?_push_of_some _ (Heap.get?_push_of_some _ (Heap.get?_push_of_some _ (x)))))⟩
theorem za2 {I l1 l2 : Nat} (e1 : l1 < I) (e2 : l2 < I) : ZA2 (I + 4) (I + 2) (I + 3) I (I + 1) l1 l2 := by
  constructor <;> (refine Nat.ne_iff_lt_or_gt.mpr ?_; omega)
end
/-- what stands at a: a list or a tuple -/
noncomputable def SqS (K : PySem.W.Frag) (H : Hp) (k : Bool) (a : Addr) (xs : List V) : Prop := match k with
  | true => SqL K H a xs
  | false => SqT K H a xs
theorem SqS.keep {K : PySem.W.Frag} {H H' : Hp} {k : Bool} {a : Addr} {xs : List V} (e : Same H H') (h : SqS K H k a xs) : SqS K H' k a xs := by
  cases k with
  | true => exact e.seq (show SqL K H a xs from h)
  | false => exact Same.sqT e (show SqT K H a xs from h)
section
variable {X : Cx} {pins : List (Addr × Obj)} {σ : L2.St} {H : Hp} {s : Shared}
theorem Inv.srcS (I : L2.Inv X pins σ H s) {k : Bool} {a : Addr} {xs : List V} (h : SqS X.K H k a xs) : ∃ its : List Value, Vals xs its ∧ SSrc s.heap k a its.toArray := by
  cases k with
  | true =>
    obtain ⟨its, rv, p, _⟩ := I.list (show SqL X.K H a xs from h)
    exact ⟨its, rv, p.isList⟩
  | false =>
    obtain ⟨its, rv, p, _⟩ := I.tuple (show SqT X.K H a xs from h)
    exact ⟨its, rv, p⟩
end
/-- the items of things that stand, turn by turn, in new tuples -/
noncomputable def ItZ2 (K : PySem.W.Frag) (k1 k2 : Bool) (l1 l2 : Addr) (ys1 ys2 : List V) : It :=
  ⟨fun i H => (SqS K H k1 l1 ys1 ∧ SqS K H k2 l2 ys2) ∧ i < ys1.length ∧ i < ys2.length, fun i H v H' => ∃ (T : Addr) (x1 x2 : V), v = .ref T ∧ H T = none ∧ H' = upd H T (.tup [x1, x2]) ∧ ys1[i]? = some x1 ∧ ys2[i]? = some x2, fun i H => (SqS K H k1 l1 ys1 ∧ SqS K H k2 l2 ys2) ∧ (ys1.length ≤ i ∨ ys2.length ≤ i)⟩
theorem turn_z2 {P : Program} {w : World} {K : PySem.W.Frag} {elts : List Expr} {kk : Nat} {tpos : Pos} {z TI TO i1 i2 l1 l2 : Addr} {k1 k2 : Bool} {ys1 ys2 : List V} (D : ZA2 z TI TO i1 i2 l1 l2) :
    Turn P w K (.Tuple elts kk tpos) (ItZ2 K k1 k2 l1 l2 ys1 ys2) [z, TI, TO, i1, i2] z (fun i h => IsZip h z TI TO .none ∧ IsT h TI #[.ref i1, .ref i2] ∧ (∃ o1 o2 : Value, IsT h TO #[o1, o2]) ∧ SIt h k1 i1 l1 i ∧ SIt h k2 i2 l2 i) where
  mem := by simp
  obj := fun i h ⟨hz, hTI, ⟨o1, o2, hTO⟩, h1, h2⟩ c hc => by
    have e' : c = z ∨ c = TI ∨ c = TO ∨ c = i1 ∨ c = i2 := by simpa using hc
    rcases e' with q | q | q | q | q
    · rw [q]; exact ⟨_, hz, fun v q => nomatch q⟩
    · rw [q]; exact ⟨_, hTI, fun v q => nomatch q⟩
    · rw [q]; exact ⟨_, hTO, fun v q => nomatch q⟩
    · rw [q]; exact h1.ob
    · rw [q]; exact h2.ob
  keep := fun i h h' ⟨hz, hTI, ⟨o1, o2, hTO⟩, h1, h2⟩ k => ⟨k z (by simp) _ hz, k TI (by simp) _ hTI, ⟨o1, o2, k TO (by simp) _ hTO⟩, h1.at fun o q => k i1 (by simp) o q, h2.at fun o q => k i2 (by simp) o q⟩
  item := by
    intro X hP hw hK hc i pins s σ H E I hf st hg
    subst hP hw hK
    obtain ⟨hz, hTI, ⟨o1, o2, hTO⟩, h1, h2⟩ := st
    obtain ⟨⟨q1, q2⟩, b1, b2⟩ := hg
    obtain ⟨its1, rv1, p1⟩ := Inv.srcS I q1
    have hx1 : ys1[i]? = some (ys1[i]'b1) := List.getElem?_eq_getElem b1
    generalize ys1[i]'b1 = x1 at hx1
    obtain ⟨u1, hu1, ru1⟩ := rv1.get hx1
    obtain ⟨its2, rv2, p2⟩ := Inv.srcS I q2
    have hx2 : ys2[i]? = some (ys2[i]'b2) := List.getElem?_eq_getElem b2
    generalize ys2[i]'b2 = x2 at hx2
    obtain ⟨u2, hu2, ru2⟩ := rv2.get hx2
    have hzl : z < s.heap.objs.size := Heap.lt_size hz
    refine pyNext_zip2 D hz hTI hTO h1 p1 h2 p2 (by simpa using hu1) (by simpa using hu2) fun h' z' TO' n1 n2 hT hsz hk => ?_
    refine ⟨_, rfl, wpAny_letOwnedTupleGo_zip (s := { s with heap := h' }) z' fun hq z2 sb => ?_⟩
    have hT2 : IsT hq s.heap.objs.size #[u1, u2] := (sb.2 _ (Nat.ne_of_gt hzl)).trans hT
    have new : ObjOk X.prog X.w (upd H s.heap.objs.size (.tup [x1, x2])) hq s.heap.objs.size (.tup [x1, x2]) :=
      ⟨by show 2 ≤ sizeLine; decide, [u1, u2], .cons ru1 (.cons ru2 (.nil)), ⟨_, hT2, rfl, _, rfl⟩⟩
    have I1 : L2.Inv X pins σ (upd H s.heap.objs.size (.tup [x1, x2])) { s with heap := hq } :=
      I.turnedNew (t' := s.toks) (ch := [z, TI, TO, i1, i2]) (fun c o hb q => (sb.2 c (fun q' => hb (by simp [q']))).trans (hk c o (fun q' => hb (by simp [q'])) (fun q' => hb (by simp [q'])) (fun q' => hb (by simp [q'])) (fun q' => hb (by simp [q'])) q)) hf (Nat.le_refl _) new
    refine ⟨.ref s.heap.objs.size, _, I1, rfl, ⟨_, x1, x2, rfl, I.hok.fresh (Nat.le_refl _), rfl, hx1, hx2⟩, ⟨z2, ?_, ⟨u1, u2, ?_⟩, ?_, ?_⟩, fun c hcm => ?_⟩
    · exact (sb.2 _ D.TIz).trans (hk _ _ D.TIz D.TITO D.TIi1 D.TIi2 hTI)
    · exact (sb.2 _ D.TOz).trans TO'
    · exact n1.at fun o q => (sb.2 _ D.i1z).trans q
    · exact n2.at fun o q => (sb.2 _ D.i2z).trans q
    · have hlt : c < s.heap.objs.size := by
        have e' : c = z ∨ c = TI ∨ c = TO ∨ c = i1 ∨ c = i2 := by simpa using hcm
        rcases e' with q | q | q | q | q
        · rw [q]; exact hzl
        · rw [q]; exact Heap.lt_size hTI
        · rw [q]; exact Heap.lt_size hTO
        · rw [q]; exact h1.lt
        · rw [q]; exact h2.lt
      rw [upd_ne (Nat.ne_of_lt hlt)]
      exact (hf c hcm).1
  done := by
    intro X hP hw hK hc i pins s σ H E I hf st hg
    subst hP hw hK
    obtain ⟨hz, hTI, ⟨o1, o2, hTO⟩, h1, h2⟩ := st
    obtain ⟨⟨q1, q2⟩, hend⟩ := hg
    obtain ⟨its1, rv1, p1⟩ := Inv.srcS I q1
    have e1 := rv1.length
    obtain ⟨its2, rv2, p2⟩ := Inv.srcS I q2
    have e2 := rv2.length
    have he : its1.toArray[i]? = none ∨ its2.toArray[i]? = none := by
      rcases hend with q | q
      · exact .inl (by simp; omega)
      · exact .inr (by simp; omega)
    exact pyNext_zip2_end (I.ok.hd hc) D hz hTI hTO h1 p1 h2 p2 he fun h' hk => ⟨rfl, I.turnedL (t' := s.toks) (ch := [z, TI, TO, i1, i2]) (fun c o hb q => hk c o (fun q' => hb (by simp [q'])) (fun q' => hb (by simp [q'])) (fun q' => hb (by simp [q'])) (fun q' => hb (by simp [q'])) q) hf⟩
  self := fun A i s Q E st h => wpAny_pyIter_zip st.1 h
noncomputable def iZ2 (K : PySem.W.Frag) (ta : TA) : TI := fun σ H R => ta σ H fun vs H1 => ∃ (k1 k2 : Bool) (l1 l2 : Addr) (ys1 ys2 : List V), vs = [.ref l1, .ref l2] ∧ (SqS K H1 k1 l1 ys1 ∧ SqS K H1 k2 l2 ys2) ∧ R (ItZ2 K k1 k2 l1 l2 ys1 ys2) H1
theorem pi_z2 {X : Cx} {e1 e2 : Expr} {ta : TA} {p pos tpos : Pos} {elts : List Expr} {kk : Nat} (hg : Gl X "zip") (hm : X.mg "zip" = none) (ha : PA X [e1, e2] ta)
    (hs : starEach [e1, e2] X.env = (false, eval e1 X.env) :: starEach [e2] X.env := by rfl) (hpl : (backTo pos (starEach [e2] X.env)).any (·.1) = false := by rfl) :
    PI X (.Tuple elts kk tpos) (.Call (.Name "zip" p) [e1, e2] [] pos) (iZ2 X.K ta) := by
  refine ⟨fun pins s σ H R I h => ?_⟩
  refine Call_ (ld_blt I hg hm PyProof.Rows.boot_zip (PyProof.Rows.callWith_type1 (thn (ha.run pos pins s σ H _ I h) fun us s1 ⟨vs, H1, I1, r1, q1⟩ => ?_) hs hpl))
  obtain ⟨k1, k2, l1, l2, ys1, ys2, ex, ⟨q1, q2⟩, q⟩ := q1
  subst ex
  cases r1 with
  | cons r1v rr =>
    cases rr with
    | cons r2v rr =>
      cases rr
      cases r1v
      cases r2v
      obtain ⟨its1, rv1, p1⟩ := Inv.srcS I1 q1
      obtain ⟨its2, rv2, p2⟩ := Inv.srcS I1 q2
      have fresh : ∀ c, c ∈ ([s1.heap.objs.size + 4, s1.heap.objs.size + 2, s1.heap.objs.size + 3, s1.heap.objs.size, s1.heap.objs.size + 1] : List Addr) → FpOk X pins H1 c := fun c hcm => by
        have e' : c = s1.heap.objs.size + 4 ∨ c = s1.heap.objs.size + 2 ∨ c = s1.heap.objs.size + 3 ∨ c = s1.heap.objs.size ∨ c = s1.heap.objs.size + 1 := by simpa using hcm
        have hle : s1.heap.objs.size ≤ c := by rcases e' with z | z | z | z | z <;> (rw [z]; first | exact Nat.le_refl _ | exact Nat.le_add_right _ _)
        exact I1.fpOk hle (I1.hok.fresh hle)
      refine call_zip2 p1 p2 fun h' hz hTI hTO n1 n2 hk => wpAny_pyIter_zip hz ?_
      have I2 : L2.Inv X pins σ H1 { s1 with heap := h' } := I1.kept (t' := s1.toks) hk
      exact ⟨s1.heap.objs.size + 4, [s1.heap.objs.size + 4, s1.heap.objs.size + 2, s1.heap.objs.size + 3, s1.heap.objs.size, s1.heap.objs.size + 1], _, _, H1, rfl, I2, turn_z2 (za2 p1.lt p2.lt), ⟨hz, hTI, ⟨_, _, hTO⟩, n1, n2⟩, fresh, q⟩
/-- a datum's items, by their places -/
noncomputable def seqQ : D → Option (List D)
  | .lst xs => some xs
  | .tup xs => some xs
  | .scr ns => some (ns.map D.int)
  | _ => none
theorem seqQ_rep {G : GC} {F H : Hp} {v : V} {d : D} {ds : List D} (s : Same F H) (r : Rep G F v d) (e : seqQ d = some ds) : ∃ k a ys, v = .ref a ∧ SqS G.K H k a ys ∧ RepAll G F ys ds := by
  cases r with
  | tup h ra => cases e; exact ⟨false, _, _, rfl, Same.sqT s h, ra⟩
  | lst h ra => cases e; exact ⟨true, _, _, rfl, .of (s _ _ h), ra⟩
  | scr h => cases e; exact ⟨true, _, _, rfl, s.seq h, ints_rep _⟩
  | _ => cases e
noncomputable def zipL2 (xs ys : List D) : List D := (xs.zip ys).map fun p => .tup [p.1, p.2]
noncomputable def zipL3 (xs ys zs : List D) : List D := (xs.zip (ys.zip zs)).map fun p => .tup [p.1, p.2.1, p.2.2]
noncomputable def zip2D : List D → Res (List D)
  | [a, b] => match seqQ a, seqQ b with
    | some xs, some ys => .ok (zipL2 xs ys)
    | _, _ => .bad
  | _ => .bad
noncomputable def zip3D : List D → Res (List D)
  | [a, b, c] => match seqQ a, seqQ b, seqQ c with
    | some xs, some ys, some zs => .ok (zipL3 xs ys zs)
    | _, _, _ => .bad
  | _ => .bad
theorem zip2D_inv (ds : List D) : (∃ a b xs ys, ds = [a, b] ∧ seqQ a = some xs ∧ seqQ b = some ys ∧ zip2D ds = .ok (zipL2 xs ys)) ∨ zip2D ds = .bad := by
  unfold zip2D
  split
  · rename_i a b
    split
    · rename_i xs ys h1 h2; exact .inl ⟨a, b, xs, ys, rfl, h1, h2, rfl⟩
    · exact .inr rfl
  · exact .inr rfl
theorem zip3D_inv (ds : List D) : (∃ a b c xs ys zs, ds = [a, b, c] ∧ seqQ a = some xs ∧ seqQ b = some ys ∧ seqQ c = some zs ∧ zip3D ds = .ok (zipL3 xs ys zs)) ∨ zip3D ds = .bad := by
  unfold zip3D
  split
  · rename_i a b c
    split
    · rename_i xs ys zs h1 h2 h3; exact .inl ⟨a, b, c, xs, ys, zs, rfl, h1, h2, h3, rfl⟩
    · exact .inr rfl
  · exact .inr rfl
theorem WalkD.zip2 {G : GC} {F : Hp} {k1 k2 : Bool} {l1 l2 : Addr} {ys1 ys2 : List V} {d1 d2 : List D} (hs : SqS G.K F k1 l1 ys1 ∧ SqS G.K F k2 l2 ys2) (r1 : RepAll G F ys1 d1) (r2 : RepAll G F ys2 d2) : WalkD G F F (ItZ2 G.K k1 k2 l1 l2 ys1 ys2) (zipL2 d1 d2) where
  goes := fun i H hi s => by
    obtain ⟨q1, q2⟩ := hs
    have w1 := r1.length
    have w2 := r2.length
    simp only [zipL2, List.length_map, List.length_zip] at hi
    exact ⟨⟨q1.keep s, q2.keep s⟩, by omega, by omega⟩
  stops := fun H s => by
    obtain ⟨q1, q2⟩ := hs
    have w1 := r1.length
    have w2 := r2.length
    refine ⟨⟨q1.keep s, q2.keep s⟩, ?_⟩
    simp only [zipL2, List.length_map, List.length_zip]
    omega
  yields := fun i F2 H2 v H3 hi s1 s2 _ ⟨T, x1, x2, e1, e2, e3, g1, g2⟩ => by
    subst e1 e3
    obtain ⟨c1, t1, m1⟩ := r1.getV g1
    obtain ⟨c2, t2, m2⟩ := r2.getV g2
    refine ⟨_, .tup [c1, c2], Grow.mk1 s2 e2, ?_, Rep.tup (.of upd_same) (.cons ((m1.mono s1).mono (Grow.mk1 s2 e2).f) (.cons ((m2.mono s1).mono (Grow.mk1 s2 e2).f) (.nil)))⟩
    unfold zipL2
    have hz : (d1.zip d2)[i]? = some (c1, c2) := List.getElem?_zip_eq_some.mpr ⟨t1, t2⟩
    rw [List.getElem?_map, hz]
    rfl
theorem ri_zip2 {X : Cx} {W : Wi} {e1 e2 : Expr} {p pos tpos : Pos} {elts : List Expr} {kk : Nat} {fa : Env → Res (List D)} (hm : X.mg "zip" = none) (ha : RA X W [e1, e2] fa) (hg : Gl X "zip" := by rfl)
    (hs : starEach [e1, e2] X.env = (false, eval e1 X.env) :: starEach [e2] X.env := by rfl) (hpl : (backTo pos (starEach [e2] X.env)).any (·.1) = false := by rfl) :
    RI X W true (.Tuple elts kk tpos) (.Call (.Name "zip" p) [e1, e2] [] pos) (fun r => fa r >>= zip2D) := by
  refine ⟨fun pins s σ H R I ⟨H0, F0, fp, F, r, m, o⟩ => (pi_z2 hg hm ha hs hpl).run pins s σ H R I ⟨H0, F0, fp, F, r, m, o.bind fun F' H' ds gr o2 vs rv => ?_⟩⟩
  rcases zip2D_inv ds with ⟨a, b, xs, ys, rfl, w1, w2, e⟩ | e
  · rw [e] at o2
    cases rv with
    | cons v1 rr =>
      cases rr with
      | cons v2 rr =>
        cases rr
        obtain ⟨k1, l1, ys1, rfl, q1, r1⟩ := seqQ_rep (Same.refl F') v1 w1
        obtain ⟨k2, l2, ys2, rfl, q2, r2⟩ := seqQ_rep (Same.refl F') v2 w2
        refine ⟨k1, k2, l1, l2, ys1, ys2, rfl, ⟨q1.keep gr.sub, q2.keep gr.sub⟩, o2 F' H' (Grow.refl gr.sub) _ (WalkD.zip2 ⟨q1, q2⟩ r1 r2)⟩
  · rw [e] at o2; exact o2.elim
structure ZA3 (z TI TO i1 i2 i3 l1 l2 l3 : Addr) : Prop where
  TIz : TI ≠ z
  TOz : TO ≠ z
  TITO : TI ≠ TO
  i1z : i1 ≠ z
  TIi1 : TI ≠ i1
  TOi1 : TO ≠ i1
  l1z : l1 ≠ z
  l1TO : l1 ≠ TO
  l1i1 : l1 ≠ i1
  l1i2 : l1 ≠ i2
  i1i2 : i1 ≠ i2
  l1i3 : l1 ≠ i3
  i1i3 : i1 ≠ i3
  i2z : i2 ≠ z
  TIi2 : TI ≠ i2
  TOi2 : TO ≠ i2
  l2z : l2 ≠ z
  l2TO : l2 ≠ TO
  l2i1 : l2 ≠ i1
  l2i2 : l2 ≠ i2
  l2i3 : l2 ≠ i3
  i2i3 : i2 ≠ i3
  i3z : i3 ≠ z
  TIi3 : TI ≠ i3
  TOi3 : TO ≠ i3
  l3z : l3 ≠ z
  l3TO : l3 ≠ TO
  l3i1 : l3 ≠ i1
  l3i2 : l3 ≠ i2
  l3i3 : l3 ≠ i3
section
variable {prog : Program} {w : World} {A : Around} {E : Value → Shared → Prop} {s : Shared}
theorem zip3_item {z TI TO i1 i2 i3 l1 l2 l3 : Addr} {k1 k2 k3 : Bool} {p : Nat} {xs1 xs2 xs3 : Array Value} {x1 x2 x3 o1 o2 o3 : Value} {Q : Value → Shared → Prop} (D : ZA3 z TI TO i1 i2 i3 l1 l2 l3) (hz : IsZip s.heap z TI TO .none) (hTI : IsT s.heap TI #[.ref i1, .ref i2, .ref i3]) (hTO : IsT s.heap TO #[o1, o2, o3]) (h1 : SIt s.heap k1 i1 l1 p) (hl1 : SSrc s.heap k1 l1 xs1) (h2 : SIt s.heap k2 i2 l2 p) (hl2 : SSrc s.heap k2 l2 xs2) (h3 : SIt s.heap k3 i3 l3 p) (hl3 : SSrc s.heap k3 l3 xs3) (hx1 : xs1[p]? = some x1) (hx2 : xs2[p]? = some x2) (hx3 : xs3[p]? = some x3)
    (hQ : ∀ h', IsZip h' z TI TO (rawInt s.heap.objs.size) → IsT h' TO #[x1, x2, x3] → SIt h' k1 i1 l1 (p + 1) → SIt h' k2 i2 l2 (p + 1) → SIt h' k3 i3 l3 (p + 1) → IsT h' s.heap.objs.size #[x1, x2, x3] → h'.objs.size = s.heap.objs.size + 1 → (∀ c o, c ≠ z → c ≠ TO → c ≠ i1 → c ≠ i2 → c ≠ i3 → s.heap.get? c = some o → h'.get? c = some o) → Q (.ref s.heap.objs.size) { s with heap := h' }) :
    wpAny (model prog w) A (Builtin.«zip.__next__» ⟨[.ref z], []⟩) (fun fin s' => ∃ v, fin = .done (.ret v) ∧ Q v s') E s := by
  show wpAny _ _ (field (.ref z) 2 >>= _) _ _ _
  refine wpAny_bind (wpAny_field hz rfl (x := .bool false) rfl ?_)
  show wpAny _ _ (field (.ref z) 3 >>= _) _ _ _
  refine wpAny_bind (wpAny_field hz rfl (x := .ref TI) rfl ?_)
  refine wpAny_bind (wpAny_seqItems hTI rfl ?_)
  show wpAny _ _ (Builtin.SmallTypes.ownedTupleIsFree (.ref z) >>= _) _ _ _
  refine wpAny_bind ?_
  unfold Builtin.SmallTypes.ownedTupleIsFree
  refine wpAny_bind (wpAny_field hz rfl (x := .none) rfl (wpAny_pure ?_))
  simp only [if_true]
  refine wpAny_bind (wpAny_rule ?_)
  refine wpAny_bind (wpAny_field hz rfl (x := .ref TO) rfl ?_)
  refine wpAny_bind (wpAny_setField_rec hz (by simp) fun g0 zz0 s0 => ?_)
  replace zz0 : IsZip g0 z TI TO .ellipsis := zz0
  have K0 : ∀ c o, c ≠ z → s.heap.get? c = some o → g0.get? c = some o := fun c o c1 e => s0.extBut _ _ c1 e
  have T0 : IsT g0 TO #[o1, o2, o3] := K0 _ _ D.TOz hTO
  have Z0 : g0.objs.size = s.heap.objs.size := s0.1
  refine wpAny_bind ?_
  simp only [List.zipIdx_cons, List.zipIdx_nil, List.forIn_cons, List.forIn_nil]
  refine wpAny_bind (wpAny_bind (wpAny_onRaise ?_))
  show wpAny _ _ (Builtin.SmallTypes.nextOf (.ref i1) >>= _) _ _ _
  have I1 : SIt g0 k1 i1 l1 p := h1.at fun o e => K0 _ o (D.i1z) e
  have L1 : SSrc g0 k1 l1 xs1 := hl1.at fun o e => K0 _ o (D.l1z) e
  refine wpAny_bind (nextS_item I1 L1 hx1 fun a1 n1 sa1 => wpAny_pure ?_)
  have Ta1 : IsT a1 TO #[o1, o2, o3] := sa1.extBut _ _ (D.TOi1) T0
  refine wpAny_bind (wpAny_seqItems Ta1 rfl ?_)
  refine wpAny_bind (updT Ta1 (by simp) fun g1 T1 st1 => ?_)
  replace T1 : IsT g1 TO #[x1, o2, o3] := T1
  have K1 : ∀ c o, c ≠ z → c ≠ TO → c ≠ i1 → s.heap.get? c = some o → g1.get? c = some o := fun c o c0 c1 c2 e => st1.extBut _ _ c1 (sa1.extBut _ _ c2 (K0 c o c0 e))
  have zz1 : IsZip g1 z TI TO .ellipsis := st1.extBut _ _ (D.TOz.symm) (sa1.extBut _ _ (D.i1z.symm) zz0)
  have Z1 : g1.objs.size = s.heap.objs.size := by rw [st1.1, sa1.1, Z0]
  have N1_1 : SIt g1 k1 i1 l1 (p + 1) := n1.at fun o e => st1.extBut _ _ (D.TOi1.symm) e
  refine wpAny_bind (wpAny_letGo (wpAny_pure ?_))
  refine wpAny_bind (wpAny_bind (wpAny_onRaise ?_))
  show wpAny _ _ (Builtin.SmallTypes.nextOf (.ref i2) >>= _) _ _ _
  have I2 : SIt g1 k2 i2 l2 p := h2.at fun o e => K1 _ o (D.i2z) (D.TOi2.symm) (D.i1i2.symm) e
  have L2 : SSrc g1 k2 l2 xs2 := hl2.at fun o e => K1 _ o (D.l2z) (D.l2TO) (D.l2i1) e
  refine wpAny_bind (nextS_item I2 L2 hx2 fun a2 n2 sa2 => wpAny_pure ?_)
  have Ta2 : IsT a2 TO #[x1, o2, o3] := sa2.extBut _ _ (D.TOi2) T1
  refine wpAny_bind (wpAny_seqItems Ta2 rfl ?_)
  refine wpAny_bind (updT Ta2 (by simp) fun g2 T2 st2 => ?_)
  replace T2 : IsT g2 TO #[x1, x2, o3] := T2
  have K2 : ∀ c o, c ≠ z → c ≠ TO → c ≠ i1 → c ≠ i2 → s.heap.get? c = some o → g2.get? c = some o := fun c o c0 c1 c2 c3 e => st2.extBut _ _ c1 (sa2.extBut _ _ c3 (K1 c o c0 c1 c2 e))
  have zz2 : IsZip g2 z TI TO .ellipsis := st2.extBut _ _ (D.TOz.symm) (sa2.extBut _ _ (D.i2z.symm) zz1)
  have Z2 : g2.objs.size = s.heap.objs.size := by rw [st2.1, sa2.1, Z1]
  have N2_2 : SIt g2 k2 i2 l2 (p + 1) := n2.at fun o e => st2.extBut _ _ (D.TOi2.symm) e
  have N1_2 : SIt g2 k1 i1 l1 (p + 1) := N1_1.at fun o e => st2.extBut _ _ (D.TOi1.symm) (sa2.extBut _ _ (D.i1i2) e)
  refine wpAny_bind (wpAny_letGo (wpAny_pure ?_))
  refine wpAny_bind (wpAny_bind (wpAny_onRaise ?_))
  show wpAny _ _ (Builtin.SmallTypes.nextOf (.ref i3) >>= _) _ _ _
  have I3 : SIt g2 k3 i3 l3 p := h3.at fun o e => K2 _ o (D.i3z) (D.TOi3.symm) (D.i1i3.symm) (D.i2i3.symm) e
  have L3 : SSrc g2 k3 l3 xs3 := hl3.at fun o e => K2 _ o (D.l3z) (D.l3TO) (D.l3i1) (D.l3i2) e
  refine wpAny_bind (nextS_item I3 L3 hx3 fun a3 n3 sa3 => wpAny_pure ?_)
  have Ta3 : IsT a3 TO #[x1, x2, o3] := sa3.extBut _ _ (D.TOi3) T2
  refine wpAny_bind (wpAny_seqItems Ta3 rfl ?_)
  refine wpAny_bind (updT Ta3 (by simp) fun g3 T3 st3 => ?_)
  replace T3 : IsT g3 TO #[x1, x2, x3] := T3
  have K3 : ∀ c o, c ≠ z → c ≠ TO → c ≠ i1 → c ≠ i2 → c ≠ i3 → s.heap.get? c = some o → g3.get? c = some o := fun c o c0 c1 c2 c3 c4 e => st3.extBut _ _ c1 (sa3.extBut _ _ c4 (K2 c o c0 c1 c2 c3 e))
  have zz3 : IsZip g3 z TI TO .ellipsis := st3.extBut _ _ (D.TOz.symm) (sa3.extBut _ _ (D.i3z.symm) zz2)
  have Z3 : g3.objs.size = s.heap.objs.size := by rw [st3.1, sa3.1, Z2]
  have N3_3 : SIt g3 k3 i3 l3 (p + 1) := n3.at fun o e => st3.extBut _ _ (D.TOi3.symm) e
  have N1_3 : SIt g3 k1 i1 l1 (p + 1) := N1_2.at fun o e => st3.extBut _ _ (D.TOi1.symm) (sa3.extBut _ _ (D.i1i3) e)
  have N2_3 : SIt g3 k2 i2 l2 (p + 1) := N2_2.at fun o e => st3.extBut _ _ (D.TOi2.symm) (sa3.extBut _ _ (D.i2i3) e)
  refine wpAny_bind (wpAny_letGo (wpAny_pure (wpAny_pure ?_)))
  refine wpAny_bind (wpAny_seqItems T3 rfl ?_)
  refine wpAny_bind (wpAny_newTuple ?_)
  show wpAny _ _ (Builtin.SmallTypes.ownedTupleHandOut (.ref z) (.ref g3.objs.size) >>= _) _ _ _
  refine wpAny_bind ?_
  unfold Builtin.SmallTypes.ownedTupleHandOut
  have hzl : z < g3.objs.size := Heap.lt_size zz3
  have zp : IsZip (g3.push { cls := .type "tuple", data := .seq #[x1, x2, x3] }) z TI TO .ellipsis := Heap.get?_push_of_some _ zz3
  refine wpAny_bind (wpAny_setField_rec zp (by simp) fun e7 z7 s7 => ?_)
  replace z7 : IsZip e7 z TI TO (rawInt g3.objs.size) := z7
  refine wpAny_setField_rec z7 (by simp) fun e8 z8 s8 => ?_
  replace z8 : IsZip e8 z TI TO (rawInt g3.objs.size) := z8
  have up : ∀ c o, c ≠ z → g3.get? c = some o → e8.get? c = some o := fun c o c1 e => s8.extBut _ _ c1 (s7.extBut _ _ c1 (Heap.get?_push_of_some _ e))
  have t8 : IsT e8 g3.objs.size #[x1, x2, x3] := s8.extBut _ _ (Nat.ne_of_gt hzl) (s7.extBut _ _ (Nat.ne_of_gt hzl) (Heap.get?_push_size _ rfl))
  have y8 : e8.objs.size = g3.objs.size + 1 := by rw [s8.1, s7.1, Heap.size_push]
  rw [Z3] at z8 t8 y8
  refine wpAny_pure ⟨_, rfl, ?_⟩
  show Q (.ref g3.objs.size) _
  rw [Z3]
  exact hQ e8 z8 (up _ _ D.TOz T3) (N1_3.at fun o e => up _ o D.i1z e) (N2_3.at fun o e => up _ o D.i2z e) (N3_3.at fun o e => up _ o D.i3z e) t8 y8 fun c o c0 c1 c2 c3 c4 e => up c o c0 (K3 c o c0 c1 c2 c3 c4 e)
theorem zip3_end {z TI TO i1 i2 i3 l1 l2 l3 : Addr} {k1 k2 k3 : Bool} {p : Nat} {xs1 xs2 xs3 : Array Value} {o1 o2 o3 : Value} {Q : Fin → Shared → Prop} (hh : A.handled = none) (D : ZA3 z TI TO i1 i2 i3 l1 l2 l3) (hz : IsZip s.heap z TI TO .none) (hTI : IsT s.heap TI #[.ref i1, .ref i2, .ref i3]) (hTO : IsT s.heap TO #[o1, o2, o3]) (h1 : SIt s.heap k1 i1 l1 p) (hl1 : SSrc s.heap k1 l1 xs1) (h2 : SIt s.heap k2 i2 l2 p) (hl2 : SSrc s.heap k2 l2 xs2) (h3 : SIt s.heap k3 i3 l3 p) (hl3 : SSrc s.heap k3 l3 xs3) (hend : xs1[p]? = none ∨ xs2[p]? = none ∨ xs3[p]? = none)
    (hE : ∀ h' e, (∀ c o, c ≠ z → c ≠ TO → c ≠ i1 → c ≠ i2 → c ≠ i3 → s.heap.get? c = some o → h'.get? c = some o) → (∃ o, h'.get? e = some o ∧ o.cls = .type "StopIteration") → E (.ref e) { s with heap := h' }) :
    wpAny (model prog w) A (Builtin.«zip.__next__» ⟨[.ref z], []⟩) Q E s := by
  show wpAny _ _ (field (.ref z) 2 >>= _) _ _ _
  refine wpAny_bind (wpAny_field hz rfl (x := .bool false) rfl ?_)
  show wpAny _ _ (field (.ref z) 3 >>= _) _ _ _
  refine wpAny_bind (wpAny_field hz rfl (x := .ref TI) rfl ?_)
  refine wpAny_bind (wpAny_seqItems hTI rfl ?_)
  show wpAny _ _ (Builtin.SmallTypes.ownedTupleIsFree (.ref z) >>= _) _ _ _
  refine wpAny_bind ?_
  unfold Builtin.SmallTypes.ownedTupleIsFree
  refine wpAny_bind (wpAny_field hz rfl (x := .none) rfl (wpAny_pure ?_))
  simp only [if_true]
  refine wpAny_bind (wpAny_rule ?_)
  refine wpAny_bind (wpAny_field hz rfl (x := .ref TO) rfl ?_)
  refine wpAny_bind (wpAny_setField_rec hz (by simp) fun g0 zz0 s0 => ?_)
  replace zz0 : IsZip g0 z TI TO .ellipsis := zz0
  have K0 : ∀ c o, c ≠ z → s.heap.get? c = some o → g0.get? c = some o := fun c o c1 e => s0.extBut _ _ c1 e
  have T0 : IsT g0 TO #[o1, o2, o3] := K0 _ _ D.TOz hTO
  have Z0 : g0.objs.size = s.heap.objs.size := s0.1
  refine wpAny_bind ?_
  simp only [List.zipIdx_cons, List.zipIdx_nil, List.forIn_cons, List.forIn_nil]
  refine wpAny_bind (wpAny_bind (wpAny_onRaise ?_))
  show wpAny _ _ (Builtin.SmallTypes.nextOf (.ref i1) >>= _) _ _ _
  have I1 : SIt g0 k1 i1 l1 p := h1.at fun o e => K0 _ o (D.i1z) e
  have L1 : SSrc g0 k1 l1 xs1 := hl1.at fun o e => K0 _ o (D.l1z) e
  cases hx1 : xs1[p]? with
  | none =>
    refine wpAny_bind (nextS_end hh I1 L1 hx1 fun ae e xe he => ?_)
    obtain ⟨oe, hoe, hce⟩ := he
    have ze : IsZip ae z TI TO .ellipsis := xe _ _ (D.i1z.symm) zz0
    have hez : e ≠ z := fun q => by subst q; rw [ze] at hoe; cases hoe; simp at hce
    refine wpAny_setField_rec ze (by simp) fun be _ sb => hE be e (fun c o c0 c1 c2 c3 c4 q => sb.extBut _ _ c0 (xe _ _ c2 (K0 c o c0 q))) ⟨oe, sb.extBut _ _ hez hoe, hce⟩
  | some x1 =>
    refine wpAny_bind (nextS_item I1 L1 hx1 fun a1 n1 sa1 => wpAny_pure ?_)
    have Ta1 : IsT a1 TO #[o1, o2, o3] := sa1.extBut _ _ (D.TOi1) T0
    refine wpAny_bind (wpAny_seqItems Ta1 rfl ?_)
    refine wpAny_bind (updT Ta1 (by simp) fun g1 T1 st1 => ?_)
    replace T1 : IsT g1 TO #[x1, o2, o3] := T1
    have K1 : ∀ c o, c ≠ z → c ≠ TO → c ≠ i1 → s.heap.get? c = some o → g1.get? c = some o := fun c o c0 c1 c2 e => st1.extBut _ _ c1 (sa1.extBut _ _ c2 (K0 c o c0 e))
    have zz1 : IsZip g1 z TI TO .ellipsis := st1.extBut _ _ (D.TOz.symm) (sa1.extBut _ _ (D.i1z.symm) zz0)
    have Z1 : g1.objs.size = s.heap.objs.size := by rw [st1.1, sa1.1, Z0]
    have N1_1 : SIt g1 k1 i1 l1 (p + 1) := n1.at fun o e => st1.extBut _ _ (D.TOi1.symm) e
    refine wpAny_bind (wpAny_letGo (wpAny_pure ?_))
    refine wpAny_bind (wpAny_bind (wpAny_onRaise ?_))
    show wpAny _ _ (Builtin.SmallTypes.nextOf (.ref i2) >>= _) _ _ _
    have I2 : SIt g1 k2 i2 l2 p := h2.at fun o e => K1 _ o (D.i2z) (D.TOi2.symm) (D.i1i2.symm) e
    have L2 : SSrc g1 k2 l2 xs2 := hl2.at fun o e => K1 _ o (D.l2z) (D.l2TO) (D.l2i1) e
    cases hx2 : xs2[p]? with
    | none =>
      refine wpAny_bind (nextS_end hh I2 L2 hx2 fun ae e xe he => ?_)
      obtain ⟨oe, hoe, hce⟩ := he
      have ze : IsZip ae z TI TO .ellipsis := xe _ _ (D.i2z.symm) zz1
      have hez : e ≠ z := fun q => by subst q; rw [ze] at hoe; cases hoe; simp at hce
      refine wpAny_setField_rec ze (by simp) fun be _ sb => hE be e (fun c o c0 c1 c2 c3 c4 q => sb.extBut _ _ c0 (xe _ _ c3 (K1 c o c0 c1 c2 q))) ⟨oe, sb.extBut _ _ hez hoe, hce⟩
    | some x2 =>
      refine wpAny_bind (nextS_item I2 L2 hx2 fun a2 n2 sa2 => wpAny_pure ?_)
      have Ta2 : IsT a2 TO #[x1, o2, o3] := sa2.extBut _ _ (D.TOi2) T1
      refine wpAny_bind (wpAny_seqItems Ta2 rfl ?_)
      refine wpAny_bind (updT Ta2 (by simp) fun g2 T2 st2 => ?_)
      replace T2 : IsT g2 TO #[x1, x2, o3] := T2
      have K2 : ∀ c o, c ≠ z → c ≠ TO → c ≠ i1 → c ≠ i2 → s.heap.get? c = some o → g2.get? c = some o := fun c o c0 c1 c2 c3 e => st2.extBut _ _ c1 (sa2.extBut _ _ c3 (K1 c o c0 c1 c2 e))
      have zz2 : IsZip g2 z TI TO .ellipsis := st2.extBut _ _ (D.TOz.symm) (sa2.extBut _ _ (D.i2z.symm) zz1)
      have Z2 : g2.objs.size = s.heap.objs.size := by rw [st2.1, sa2.1, Z1]
      have N2_2 : SIt g2 k2 i2 l2 (p + 1) := n2.at fun o e => st2.extBut _ _ (D.TOi2.symm) e
      have N1_2 : SIt g2 k1 i1 l1 (p + 1) := N1_1.at fun o e => st2.extBut _ _ (D.TOi1.symm) (sa2.extBut _ _ (D.i1i2) e)
      refine wpAny_bind (wpAny_letGo (wpAny_pure ?_))
      refine wpAny_bind (wpAny_bind (wpAny_onRaise ?_))
      show wpAny _ _ (Builtin.SmallTypes.nextOf (.ref i3) >>= _) _ _ _
      have I3 : SIt g2 k3 i3 l3 p := h3.at fun o e => K2 _ o (D.i3z) (D.TOi3.symm) (D.i1i3.symm) (D.i2i3.symm) e
      have L3 : SSrc g2 k3 l3 xs3 := hl3.at fun o e => K2 _ o (D.l3z) (D.l3TO) (D.l3i1) (D.l3i2) e
      cases hx3 : xs3[p]? with
      | none =>
        refine wpAny_bind (nextS_end hh I3 L3 hx3 fun ae e xe he => ?_)
        obtain ⟨oe, hoe, hce⟩ := he
        have ze : IsZip ae z TI TO .ellipsis := xe _ _ (D.i3z.symm) zz2
        have hez : e ≠ z := fun q => by subst q; rw [ze] at hoe; cases hoe; simp at hce
        refine wpAny_setField_rec ze (by simp) fun be _ sb => hE be e (fun c o c0 c1 c2 c3 c4 q => sb.extBut _ _ c0 (xe _ _ c4 (K2 c o c0 c1 c2 c3 q))) ⟨oe, sb.extBut _ _ hez hoe, hce⟩
      | some x3 =>
        rcases hend with q | q | q
        · rw [hx1] at q; cases q
        · rw [hx2] at q; cases q
        · rw [hx3] at q; cases q
theorem pyNext_zip3 {z TI TO i1 i2 i3 l1 l2 l3 : Addr} {k1 k2 k3 : Bool} {p : Nat} {xs1 xs2 xs3 : Array Value} {x1 x2 x3 o1 o2 o3 : Value} {Q : Option Value → Shared → Prop} (D : ZA3 z TI TO i1 i2 i3 l1 l2 l3) (hz : IsZip s.heap z TI TO .none) (hTI : IsT s.heap TI #[.ref i1, .ref i2, .ref i3]) (hTO : IsT s.heap TO #[o1, o2, o3]) (h1 : SIt s.heap k1 i1 l1 p) (hl1 : SSrc s.heap k1 l1 xs1) (h2 : SIt s.heap k2 i2 l2 p) (hl2 : SSrc s.heap k2 l2 xs2) (h3 : SIt s.heap k3 i3 l3 p) (hl3 : SSrc s.heap k3 l3 xs3) (hx1 : xs1[p]? = some x1) (hx2 : xs2[p]? = some x2) (hx3 : xs3[p]? = some x3)
    (hQ : ∀ h', IsZip h' z TI TO (rawInt s.heap.objs.size) → IsT h' TO #[x1, x2, x3] → SIt h' k1 i1 l1 (p + 1) → SIt h' k2 i2 l2 (p + 1) → SIt h' k3 i3 l3 (p + 1) → IsT h' s.heap.objs.size #[x1, x2, x3] → h'.objs.size = s.heap.objs.size + 1 → (∀ c o, c ≠ z → c ≠ TO → c ≠ i1 → c ≠ i2 → c ≠ i3 → s.heap.get? c = some o → h'.get? c = some o) → Q (some (.ref s.heap.objs.size)) { s with heap := h' }) :
    wpAny (model prog w) A (pyNext (.ref z)) Q E s := by
  have hT : s.TypeIs (.ref z) "zip" := ⟨_, hz, rfl⟩
  unfold pyNext
  exact wpAny_bind (wpAny_attempt (wpAny_callSpecial?_slot (name := Str.ofString "__next__") hT F.slot_zip_next (wpAny_call_entry F.slot_zip_next hT F.entry_zip_next (zip3_item D hz hTI hTO h1 hl1 h2 hl2 h3 hl3 hx1 hx2 hx3 fun h' a0 a1 a2 a3 a4 a5 a6 a7 => wpAny_pure (hQ h' a0 a1 a2 a3 a4 a5 a6 a7)) (F.args_zip_next_1 _))))
theorem pyNext_zip3_end {z TI TO i1 i2 i3 l1 l2 l3 : Addr} {k1 k2 k3 : Bool} {p : Nat} {xs1 xs2 xs3 : Array Value} {o1 o2 o3 : Value} {Q : Option Value → Shared → Prop} (hh : A.handled = none) (D : ZA3 z TI TO i1 i2 i3 l1 l2 l3) (hz : IsZip s.heap z TI TO .none) (hTI : IsT s.heap TI #[.ref i1, .ref i2, .ref i3]) (hTO : IsT s.heap TO #[o1, o2, o3]) (h1 : SIt s.heap k1 i1 l1 p) (hl1 : SSrc s.heap k1 l1 xs1) (h2 : SIt s.heap k2 i2 l2 p) (hl2 : SSrc s.heap k2 l2 xs2) (h3 : SIt s.heap k3 i3 l3 p) (hl3 : SSrc s.heap k3 l3 xs3) (hend : xs1[p]? = none ∨ xs2[p]? = none ∨ xs3[p]? = none)
    (hQ : ∀ h', (∀ c o, c ≠ z → c ≠ TO → c ≠ i1 → c ≠ i2 → c ≠ i3 → s.heap.get? c = some o → h'.get? c = some o) → Q none { s with heap := h' }) : wpAny (model prog w) A (pyNext (.ref z)) Q E s := by
  have hT : s.TypeIs (.ref z) "zip" := ⟨_, hz, rfl⟩
  unfold pyNext
  refine wpAny_bind (wpAny_attempt (wpAny_callSpecial?_slot (name := Str.ofString "__next__") hT F.slot_zip_next (wpAny_call_entry F.slot_zip_next hT F.entry_zip_next (zip3_end hh D hz hTI hTO h1 hl1 h2 hl2 h3 hl3 hend fun h' e hk he => ?_) (F.args_zip_next_1 _))))
  obtain ⟨o, ho, hc⟩ := he
  refine wpAny_bind (wpAny_isInstance (T := "StopIteration") (b := true) ⟨o, ho, hc⟩ isSubtype_stop ?_)
  exact wpAny_pure (hQ _ hk)
end
noncomputable abbrev zH3_1 (h : Heap) (k1 : Bool) (l1 : Addr) : Heap := h.push { cls := .type (clsI k1), data := .fields #[.ref l1, .int 0 0] }
noncomputable abbrev zH3_2 (h : Heap) (k1 k2 : Bool) (l1 l2 : Addr) : Heap := (zH3_1 h k1 l1).push { cls := .type (clsI k2), data := .fields #[.ref l2, .int 0 0] }
noncomputable abbrev zH3_3 (h : Heap) (k1 k2 k3 : Bool) (l1 l2 l3 : Addr) : Heap := (zH3_2 h k1 k2 l1 l2).push { cls := .type (clsI k3), data := .fields #[.ref l3, .int 0 0] }
noncomputable abbrev zH3_T (h : Heap) (k1 k2 k3 : Bool) (l1 l2 l3 : Addr) : Heap := (zH3_3 h k1 k2 k3 l1 l2 l3).push { cls := .type "tuple", data := .seq #[.ref h.objs.size, .ref (zH3_1 h k1 l1).objs.size, .ref (zH3_2 h k1 k2 l1 l2).objs.size] }
noncomputable abbrev zH3_O (h : Heap) (k1 k2 k3 : Bool) (l1 l2 l3 : Addr) : Heap := (zH3_T h k1 k2 k3 l1 l2 l3).push { cls := .type "tuple", data := .seq #[.none, .none, .none] }
noncomputable abbrev zH3_Z (h : Heap) (k1 k2 k3 : Bool) (l1 l2 l3 : Addr) : Heap := (zH3_O h k1 k2 k3 l1 l2 l3).push { cls := .type "zip", data := .fields #[.none, .bool false, .bool false, .ref (zH3_3 h k1 k2 k3 l1 l2 l3).objs.size, .ref (zH3_T h k1 k2 k3 l1 l2 l3).objs.size] }
theorem meets_zip3 (k1 k2 k3 : Bool) (l1 l2 l3 : Addr) (xs1 xs2 xs3 : Array Value) :
    Meets (Builtin.«zip.__new__» ⟨[.type "zip", .ref l1, .ref l2, .ref l3], []⟩) (fun _ R s => (SSrc s.heap k1 l1 xs1 ∧ SSrc s.heap k2 l2 xs2 ∧ SSrc s.heap k3 l3 xs3) ∧ R (.ok (.ret (.ref (zH3_O s.heap k1 k2 k3 l1 l2 l3).objs.size))) { s with heap := zH3_Z s.heap k1 k2 k3 l1 l2 l3 }) :=
  .of_wp fun prog w A R s h => by
    obtain ⟨hp, g, d, tk, os⟩ := s; obtain ⟨⟨hl1, hl2, hl3⟩, h⟩ := h
    have hsub := sub_zip
    have M1 : SSrc (Shared.heap ⟨hp, g, d, tk, os⟩) k1 l1 xs1 := hl1
    have M2 : SSrc (Shared.heap ⟨(hp.push { cls := .type (clsI k1), data := .fields #[.ref l1, .int 0 0] }), g, d, tk, os⟩) k2 l2 xs2 := hl2.at fun o e => Heap.get?_push_of_some _ (e)
    have M3 : SSrc (Shared.heap ⟨((hp.push { cls := .type (clsI k1), data := .fields #[.ref l1, .int 0 0] }).push { cls := .type (clsI k2), data := .fields #[.ref l2, .int 0 0] }), g, d, tk, os⟩) k3 l3 xs3 := hl3.at fun o e => Heap.get?_push_of_some _ (Heap.get?_push_of_some _ (e))
    wp_walk using iterS M1, iterS M2, iterS M3
    exact ⟨_, rfl, h⟩
theorem tc_zip3 (a1 a2 a3 : Value) : checkTypeCall "zip" ⟨[a1, a2, a3], []⟩ = pure () := F.typeCall_zip_3 a1 a2 a3
theorem nc_zip3 (a1 a2 a3 : Value) : checkBuiltinCall "zip.__new__" ⟨[.type "zip", a1, a2, a3], []⟩ = pure () := F.newCall_zip_3 a1 a2 a3
theorem ai_zip3 (b a1 a2 a3 : Value) : argsOk "object.__init__" ⟨[b, a1, a2, a3], []⟩ := F.args_object_init_4 b a1 a2 a3
section
variable {prog : Program} {w : World} {A : Around} {E : Value → Shared → Prop} {s : Shared}
theorem call_zip3 {k1 k2 k3 : Bool} {l1 l2 l3 : Addr} {xs1 xs2 xs3 : Array Value} {Q : Value → Shared → Prop} (hl1 : SSrc s.heap k1 l1 xs1) (hl2 : SSrc s.heap k2 l2 xs2) (hl3 : SSrc s.heap k3 l3 xs3)
    (h : ∀ h', IsZip h' (s.heap.objs.size + 5) (s.heap.objs.size + 3) (s.heap.objs.size + 4) .none → IsT h' (s.heap.objs.size + 3) #[.ref s.heap.objs.size, .ref (s.heap.objs.size + 1), .ref (s.heap.objs.size + 2)] → IsT h' (s.heap.objs.size + 4) #[.none, .none, .none] → SIt h' k1 s.heap.objs.size l1 0 → SIt h' k2 (s.heap.objs.size + 1) l2 0 → SIt h' k3 (s.heap.objs.size + 2) l3 0 → (∀ c o, s.heap.get? c = some o → h'.get? c = some o) → Q (.ref (s.heap.objs.size + 5)) { s with heap := h' }) :
    wpAny (model prog w) A (call (.type "zip") [.ref l1, .ref l2, .ref l3]) Q E s := by
  refine callType_new F.called_zip (by decide) (tc_zip3 _ _ _ ) (nc_zip3 _ _ _ ) (fun obj => ai_zip3 obj _ _ _ ) F.entry_zip_new (meets_zip3 k1 k2 k3 l1 l2 l3 xs1 xs2 xs3) ⟨⟨hl1, hl2, hl3⟩, ?_⟩
  have y1 : (zH3_1 s.heap k1 l1).objs.size = s.heap.objs.size + 1 := Heap.size_push ..
  have y2 : (zH3_2 s.heap k1 k2 l1 l2).objs.size = s.heap.objs.size + 2 := by rw [Heap.size_push, y1]
  have y3 : (zH3_3 s.heap k1 k2 k3 l1 l2 l3).objs.size = s.heap.objs.size + 3 := by rw [Heap.size_push, y2]
  have y4 : (zH3_T s.heap k1 k2 k3 l1 l2 l3).objs.size = s.heap.objs.size + 4 := by rw [Heap.size_push, y3]
  have y5 : (zH3_O s.heap k1 k2 k3 l1 l2 l3).objs.size = s.heap.objs.size + 5 := by rw [Heap.size_push, y4]
  have q0 : (zH3_Z s.heap k1 k2 k3 l1 l2 l3).get? s.heap.objs.size = some _ := Heap.get?_push_of_some _ (Heap.get?_push_of_some _ (Heap.get?_push_of_some _ (Heap.get?_push_of_some _ (Heap.get?_push_of_some _ (Heap.get?_push_size _ rfl)))))
  have q1 : (zH3_Z s.heap k1 k2 k3 l1 l2 l3).get? (zH3_1 s.heap k1 l1).objs.size = some _ := Heap.get?_push_of_some _ (Heap.get?_push_of_some _ (Heap.get?_push_of_some _ (Heap.get?_push_of_some _ (Heap.get?_push_size _ rfl))))
  have q2 : (zH3_Z s.heap k1 k2 k3 l1 l2 l3).get? (zH3_2 s.heap k1 k2 l1 l2).objs.size = some _ := Heap.get?_push_of_some _ (Heap.get?_push_of_some _ (Heap.get?_push_of_some _ (Heap.get?_push_size _ rfl)))
  have q3 : (zH3_Z s.heap k1 k2 k3 l1 l2 l3).get? (zH3_3 s.heap k1 k2 k3 l1 l2 l3).objs.size = some _ := Heap.get?_push_of_some _ (Heap.get?_push_of_some _ (Heap.get?_push_size _ rfl))
  have q4 : (zH3_Z s.heap k1 k2 k3 l1 l2 l3).get? (zH3_T s.heap k1 k2 k3 l1 l2 l3).objs.size = some _ := Heap.get?_push_of_some _ (Heap.get?_push_size _ rfl)
  have q5 : (zH3_Z s.heap k1 k2 k3 l1 l2 l3).get? (zH3_O s.heap k1 k2 k3 l1 l2 l3).objs.size = some _ := Heap.get?_push_size _ rfl
  show _ ∧ _
  rw [y1] at q1
  rw [y2] at q2
  rw [y1, y2, y3] at q3
  rw [y4] at q4
  rw [y3, y4, y5] at q5
  rw [y5]
  exact ⟨⟨_, q5, rfl⟩, h _ q5 q3 q4 (show SIt _ k1 _ l1 0 by cases k1 <;> exact ⟨_, q0, rfl, rfl⟩) (show SIt _ k2 _ l2 0 by cases k2 <;> exact ⟨_, q1, rfl, rfl⟩) (show SIt _ k3 _ l3 0 by cases k3 <;> exact ⟨_, q2, rfl, rfl⟩) fun c o x => Heap.get?_push_of_some _ (Heap.get?_push_of_some _ (Heap.get?_push_of_some _ (Heap.get?_push_of_some _ (Heap.get?_push_of_some _ (Heap.get?_push_of_some _ (x))))))⟩
theorem za3 {I l1 l2 l3 : Nat} (e1 : l1 < I) (e2 : l2 < I) (e3 : l3 < I) : ZA3 (I + 5) (I + 3) (I + 4) I (I + 1) (I + 2) l1 l2 l3 := by
  constructor <;> (refine Nat.ne_iff_lt_or_gt.mpr ?_; omega)
end
/-- the items of things that stand, turn by turn, in new tuples -/
noncomputable def ItZ3 (K : PySem.W.Frag) (k1 k2 k3 : Bool) (l1 l2 l3 : Addr) (ys1 ys2 ys3 : List V) : It :=
  ⟨fun i H => (SqS K H k1 l1 ys1 ∧ SqS K H k2 l2 ys2 ∧ SqS K H k3 l3 ys3) ∧ i < ys1.length ∧ i < ys2.length ∧ i < ys3.length, fun i H v H' => ∃ (T : Addr) (x1 x2 x3 : V), v = .ref T ∧ H T = none ∧ H' = upd H T (.tup [x1, x2, x3]) ∧ ys1[i]? = some x1 ∧ ys2[i]? = some x2 ∧ ys3[i]? = some x3, fun i H => (SqS K H k1 l1 ys1 ∧ SqS K H k2 l2 ys2 ∧ SqS K H k3 l3 ys3) ∧ (ys1.length ≤ i ∨ ys2.length ≤ i ∨ ys3.length ≤ i)⟩
theorem turn_z3 {P : Program} {w : World} {K : PySem.W.Frag} {elts : List Expr} {kk : Nat} {tpos : Pos} {z TI TO i1 i2 i3 l1 l2 l3 : Addr} {k1 k2 k3 : Bool} {ys1 ys2 ys3 : List V} (D : ZA3 z TI TO i1 i2 i3 l1 l2 l3) :
    Turn P w K (.Tuple elts kk tpos) (ItZ3 K k1 k2 k3 l1 l2 l3 ys1 ys2 ys3) [z, TI, TO, i1, i2, i3] z (fun i h => IsZip h z TI TO .none ∧ IsT h TI #[.ref i1, .ref i2, .ref i3] ∧ (∃ o1 o2 o3 : Value, IsT h TO #[o1, o2, o3]) ∧ SIt h k1 i1 l1 i ∧ SIt h k2 i2 l2 i ∧ SIt h k3 i3 l3 i) where
  mem := by simp
  obj := fun i h ⟨hz, hTI, ⟨o1, o2, o3, hTO⟩, h1, h2, h3⟩ c hc => by
    have e' : c = z ∨ c = TI ∨ c = TO ∨ c = i1 ∨ c = i2 ∨ c = i3 := by simpa using hc
    rcases e' with q | q | q | q | q | q
    · rw [q]; exact ⟨_, hz, fun v q => nomatch q⟩
    · rw [q]; exact ⟨_, hTI, fun v q => nomatch q⟩
    · rw [q]; exact ⟨_, hTO, fun v q => nomatch q⟩
    · rw [q]; exact h1.ob
    · rw [q]; exact h2.ob
    · rw [q]; exact h3.ob
  keep := fun i h h' ⟨hz, hTI, ⟨o1, o2, o3, hTO⟩, h1, h2, h3⟩ k => ⟨k z (by simp) _ hz, k TI (by simp) _ hTI, ⟨o1, o2, o3, k TO (by simp) _ hTO⟩, h1.at fun o q => k i1 (by simp) o q, h2.at fun o q => k i2 (by simp) o q, h3.at fun o q => k i3 (by simp) o q⟩
  item := by
    intro X hP hw hK hc i pins s σ H E I hf st hg
    subst hP hw hK
    obtain ⟨hz, hTI, ⟨o1, o2, o3, hTO⟩, h1, h2, h3⟩ := st
    obtain ⟨⟨q1, q2, q3⟩, b1, b2, b3⟩ := hg
    obtain ⟨its1, rv1, p1⟩ := Inv.srcS I q1
    have hx1 : ys1[i]? = some (ys1[i]'b1) := List.getElem?_eq_getElem b1
    generalize ys1[i]'b1 = x1 at hx1
    obtain ⟨u1, hu1, ru1⟩ := rv1.get hx1
    obtain ⟨its2, rv2, p2⟩ := Inv.srcS I q2
    have hx2 : ys2[i]? = some (ys2[i]'b2) := List.getElem?_eq_getElem b2
    generalize ys2[i]'b2 = x2 at hx2
    obtain ⟨u2, hu2, ru2⟩ := rv2.get hx2
    obtain ⟨its3, rv3, p3⟩ := Inv.srcS I q3
    have hx3 : ys3[i]? = some (ys3[i]'b3) := List.getElem?_eq_getElem b3
    generalize ys3[i]'b3 = x3 at hx3
    obtain ⟨u3, hu3, ru3⟩ := rv3.get hx3
    have hzl : z < s.heap.objs.size := Heap.lt_size hz
    refine pyNext_zip3 D hz hTI hTO h1 p1 h2 p2 h3 p3 (by simpa using hu1) (by simpa using hu2) (by simpa using hu3) fun h' z' TO' n1 n2 n3 hT hsz hk => ?_
    refine ⟨_, rfl, wpAny_letOwnedTupleGo_zip (s := { s with heap := h' }) z' fun hq z2 sb => ?_⟩
    have hT2 : IsT hq s.heap.objs.size #[u1, u2, u3] := (sb.2 _ (Nat.ne_of_gt hzl)).trans hT
    have new : ObjOk X.prog X.w (upd H s.heap.objs.size (.tup [x1, x2, x3])) hq s.heap.objs.size (.tup [x1, x2, x3]) :=
      ⟨by show 3 ≤ sizeLine; decide, [u1, u2, u3], .cons ru1 (.cons ru2 (.cons ru3 (.nil))), ⟨_, hT2, rfl, _, rfl⟩⟩
    have I1 : L2.Inv X pins σ (upd H s.heap.objs.size (.tup [x1, x2, x3])) { s with heap := hq } :=
      I.turnedNew (t' := s.toks) (ch := [z, TI, TO, i1, i2, i3]) (fun c o hb q => (sb.2 c (fun q' => hb (by simp [q']))).trans (hk c o (fun q' => hb (by simp [q'])) (fun q' => hb (by simp [q'])) (fun q' => hb (by simp [q'])) (fun q' => hb (by simp [q'])) (fun q' => hb (by simp [q'])) q)) hf (Nat.le_refl _) new
    refine ⟨.ref s.heap.objs.size, _, I1, rfl, ⟨_, x1, x2, x3, rfl, I.hok.fresh (Nat.le_refl _), rfl, hx1, hx2, hx3⟩, ⟨z2, ?_, ⟨u1, u2, u3, ?_⟩, ?_, ?_, ?_⟩, fun c hcm => ?_⟩
    · exact (sb.2 _ D.TIz).trans (hk _ _ D.TIz D.TITO D.TIi1 D.TIi2 D.TIi3 hTI)
    · exact (sb.2 _ D.TOz).trans TO'
    · exact n1.at fun o q => (sb.2 _ D.i1z).trans q
    · exact n2.at fun o q => (sb.2 _ D.i2z).trans q
    · exact n3.at fun o q => (sb.2 _ D.i3z).trans q
    · have hlt : c < s.heap.objs.size := by
        have e' : c = z ∨ c = TI ∨ c = TO ∨ c = i1 ∨ c = i2 ∨ c = i3 := by simpa using hcm
        rcases e' with q | q | q | q | q | q
        · rw [q]; exact hzl
        · rw [q]; exact Heap.lt_size hTI
        · rw [q]; exact Heap.lt_size hTO
        · rw [q]; exact h1.lt
        · rw [q]; exact h2.lt
        · rw [q]; exact h3.lt
      rw [upd_ne (Nat.ne_of_lt hlt)]
      exact (hf c hcm).1
  done := by
    intro X hP hw hK hc i pins s σ H E I hf st hg
    subst hP hw hK
    obtain ⟨hz, hTI, ⟨o1, o2, o3, hTO⟩, h1, h2, h3⟩ := st
    obtain ⟨⟨q1, q2, q3⟩, hend⟩ := hg
    obtain ⟨its1, rv1, p1⟩ := Inv.srcS I q1
    have e1 := rv1.length
    obtain ⟨its2, rv2, p2⟩ := Inv.srcS I q2
    have e2 := rv2.length
    obtain ⟨its3, rv3, p3⟩ := Inv.srcS I q3
    have e3 := rv3.length
    have he : its1.toArray[i]? = none ∨ its2.toArray[i]? = none ∨ its3.toArray[i]? = none := by
      rcases hend with q | q | q
      · exact .inl (by simp; omega)
      · exact .inr (.inl (by simp; omega))
      · exact .inr (.inr (by simp; omega))
    exact pyNext_zip3_end (I.ok.hd hc) D hz hTI hTO h1 p1 h2 p2 h3 p3 he fun h' hk => ⟨rfl, I.turnedL (t' := s.toks) (ch := [z, TI, TO, i1, i2, i3]) (fun c o hb q => hk c o (fun q' => hb (by simp [q'])) (fun q' => hb (by simp [q'])) (fun q' => hb (by simp [q'])) (fun q' => hb (by simp [q'])) (fun q' => hb (by simp [q'])) q) hf⟩
  self := fun A i s Q E st h => wpAny_pyIter_zip st.1 h
noncomputable def iZ3 (K : PySem.W.Frag) (ta : TA) : TI := fun σ H R => ta σ H fun vs H1 => ∃ (k1 k2 k3 : Bool) (l1 l2 l3 : Addr) (ys1 ys2 ys3 : List V), vs = [.ref l1, .ref l2, .ref l3] ∧ (SqS K H1 k1 l1 ys1 ∧ SqS K H1 k2 l2 ys2 ∧ SqS K H1 k3 l3 ys3) ∧ R (ItZ3 K k1 k2 k3 l1 l2 l3 ys1 ys2 ys3) H1
theorem pi_z3 {X : Cx} {e1 e2 e3 : Expr} {ta : TA} {p pos tpos : Pos} {elts : List Expr} {kk : Nat} (hg : Gl X "zip") (hm : X.mg "zip" = none) (ha : PA X [e1, e2, e3] ta)
    (hs : starEach [e1, e2, e3] X.env = (false, eval e1 X.env) :: starEach [e2, e3] X.env := by rfl) (hpl : (backTo pos (starEach [e2, e3] X.env)).any (·.1) = false := by rfl) :
    PI X (.Tuple elts kk tpos) (.Call (.Name "zip" p) [e1, e2, e3] [] pos) (iZ3 X.K ta) := by
  refine ⟨fun pins s σ H R I h => ?_⟩
  refine Call_ (ld_blt I hg hm PyProof.Rows.boot_zip (PyProof.Rows.callWith_type1 (thn (ha.run pos pins s σ H _ I h) fun us s1 ⟨vs, H1, I1, r1, q1⟩ => ?_) hs hpl))
  obtain ⟨k1, k2, k3, l1, l2, l3, ys1, ys2, ys3, ex, ⟨q1, q2, q3⟩, q⟩ := q1
  subst ex
  cases r1 with
  | cons r1v rr =>
    cases rr with
    | cons r2v rr =>
      cases rr with
      | cons r3v rr =>
        cases rr
        cases r1v
        cases r2v
        cases r3v
        obtain ⟨its1, rv1, p1⟩ := Inv.srcS I1 q1
        obtain ⟨its2, rv2, p2⟩ := Inv.srcS I1 q2
        obtain ⟨its3, rv3, p3⟩ := Inv.srcS I1 q3
        have fresh : ∀ c, c ∈ ([s1.heap.objs.size + 5, s1.heap.objs.size + 3, s1.heap.objs.size + 4, s1.heap.objs.size, s1.heap.objs.size + 1, s1.heap.objs.size + 2] : List Addr) → FpOk X pins H1 c := fun c hcm => by
          have e' : c = s1.heap.objs.size + 5 ∨ c = s1.heap.objs.size + 3 ∨ c = s1.heap.objs.size + 4 ∨ c = s1.heap.objs.size ∨ c = s1.heap.objs.size + 1 ∨ c = s1.heap.objs.size + 2 := by simpa using hcm
          have hle : s1.heap.objs.size ≤ c := by rcases e' with z | z | z | z | z | z <;> (rw [z]; first | exact Nat.le_refl _ | exact Nat.le_add_right _ _)
          exact I1.fpOk hle (I1.hok.fresh hle)
        refine call_zip3 p1 p2 p3 fun h' hz hTI hTO n1 n2 n3 hk => wpAny_pyIter_zip hz ?_
        have I2 : L2.Inv X pins σ H1 { s1 with heap := h' } := I1.kept (t' := s1.toks) hk
        exact ⟨s1.heap.objs.size + 5, [s1.heap.objs.size + 5, s1.heap.objs.size + 3, s1.heap.objs.size + 4, s1.heap.objs.size, s1.heap.objs.size + 1, s1.heap.objs.size + 2], _, _, H1, rfl, I2, turn_z3 (za3 p1.lt p2.lt p3.lt), ⟨hz, hTI, ⟨_, _, _, hTO⟩, n1, n2, n3⟩, fresh, q⟩
theorem WalkD.zip3 {G : GC} {F : Hp} {k1 k2 k3 : Bool} {l1 l2 l3 : Addr} {ys1 ys2 ys3 : List V} {d1 d2 d3 : List D} (hs : SqS G.K F k1 l1 ys1 ∧ SqS G.K F k2 l2 ys2 ∧ SqS G.K F k3 l3 ys3) (r1 : RepAll G F ys1 d1) (r2 : RepAll G F ys2 d2) (r3 : RepAll G F ys3 d3) : WalkD G F F (ItZ3 G.K k1 k2 k3 l1 l2 l3 ys1 ys2 ys3) (zipL3 d1 d2 d3) where
  goes := fun i H hi s => by
    obtain ⟨q1, q2, q3⟩ := hs
    have w1 := r1.length
    have w2 := r2.length
    have w3 := r3.length
    simp only [zipL3, List.length_map, List.length_zip] at hi
    exact ⟨⟨q1.keep s, q2.keep s, q3.keep s⟩, by omega, by omega, by omega⟩
  stops := fun H s => by
    obtain ⟨q1, q2, q3⟩ := hs
    have w1 := r1.length
    have w2 := r2.length
    have w3 := r3.length
    refine ⟨⟨q1.keep s, q2.keep s, q3.keep s⟩, ?_⟩
    simp only [zipL3, List.length_map, List.length_zip]
    omega
  yields := fun i F2 H2 v H3 hi s1 s2 _ ⟨T, x1, x2, x3, e1, e2, e3, g1, g2, g3⟩ => by
    subst e1 e3
    obtain ⟨c1, t1, m1⟩ := r1.getV g1
    obtain ⟨c2, t2, m2⟩ := r2.getV g2
    obtain ⟨c3, t3, m3⟩ := r3.getV g3
    refine ⟨_, .tup [c1, c2, c3], Grow.mk1 s2 e2, ?_, Rep.tup (.of upd_same) (.cons ((m1.mono s1).mono (Grow.mk1 s2 e2).f) (.cons ((m2.mono s1).mono (Grow.mk1 s2 e2).f) (.cons ((m3.mono s1).mono (Grow.mk1 s2 e2).f) (.nil))))⟩
    unfold zipL3
    have hz : (d1.zip (d2.zip d3))[i]? = some (c1, c2, c3) := List.getElem?_zip_eq_some.mpr ⟨t1, List.getElem?_zip_eq_some.mpr ⟨t2, t3⟩⟩
    rw [List.getElem?_map, hz]
    rfl
theorem ri_zip3 {X : Cx} {W : Wi} {e1 e2 e3 : Expr} {p pos tpos : Pos} {elts : List Expr} {kk : Nat} {fa : Env → Res (List D)} (hm : X.mg "zip" = none) (ha : RA X W [e1, e2, e3] fa) (hg : Gl X "zip" := by rfl)
    (hs : starEach [e1, e2, e3] X.env = (false, eval e1 X.env) :: starEach [e2, e3] X.env := by rfl) (hpl : (backTo pos (starEach [e2, e3] X.env)).any (·.1) = false := by rfl) :
    RI X W true (.Tuple elts kk tpos) (.Call (.Name "zip" p) [e1, e2, e3] [] pos) (fun r => fa r >>= zip3D) := by
  refine ⟨fun pins s σ H R I ⟨H0, F0, fp, F, r, m, o⟩ => (pi_z3 hg hm ha hs hpl).run pins s σ H R I ⟨H0, F0, fp, F, r, m, o.bind fun F' H' ds gr o2 vs rv => ?_⟩⟩
  rcases zip3D_inv ds with ⟨a, b, c, xs, ys, zs, rfl, w1, w2, w3, e⟩ | e
  · rw [e] at o2
    cases rv with
    | cons v1 rr =>
      cases rr with
      | cons v2 rr =>
        cases rr with
        | cons v3 rr =>
          cases rr
          obtain ⟨k1, l1, ys1, rfl, q1, r1⟩ := seqQ_rep (Same.refl F') v1 w1
          obtain ⟨k2, l2, ys2, rfl, q2, r2⟩ := seqQ_rep (Same.refl F') v2 w2
          obtain ⟨k3, l3, ys3, rfl, q3, r3⟩ := seqQ_rep (Same.refl F') v3 w3
          refine ⟨k1, k2, k3, l1, l2, l3, ys1, ys2, ys3, rfl, ⟨q1.keep gr.sub, q2.keep gr.sub, q3.keep gr.sub⟩, o2 F' H' (Grow.refl gr.sub) _ (WalkD.zip3 ⟨q1, q2, q3⟩ r1 r2 r3)⟩
  · rw [e] at o2; exact o2.elim
end Mir
namespace Mir
open PySem PySem.Spec PyProof.Rows L2
variable [Tn]
noncomputable def trD : D → Option Bool
  | .bl b => some b
  | .int i => some (i != 0)
  | _ => none
noncomputable def trsD : List D → Option (List Bool)
  | [] => some []
  | d :: ds => match trD d, trsD ds with
    | some b, some bs => some (b :: bs)
    | _, _ => none
noncomputable def trV : V → Bool → Prop := fun x b => x = .bl b ∨ ∃ i : Int, x = .int i ∧ b = (i != 0)
theorem trs_rep {G : GC} {F : Hp} : ∀ {vs : List V} {ds : List D} {bs : List Bool}, RepAll G F vs ds → trsD ds = some bs → Paired trV vs bs
  | _, _, _, .nil, e => by cases e; exact .nil
  | _, _, _, .cons (d := d) r t, e => by
    rw [trsD] at e
    split at e
    · rename_i b bs h1 h2
      cases e
      refine .cons ?_ (trs_rep t h2)
      cases d with
      | bl c => cases h1; cases r; exact .inl rfl
      | int i => cases h1; cases r; exact .inr ⟨i, rfl, rfl⟩
      | _ => cases h1
    · cases e
theorem paired_at {vs : List V} {bs : List Bool} {its : List Value} (p : Paired trV vs bs) (r : Vals vs its) : ∀ {i : Nat} {v : Value}, its[i]? = some v → ∃ x b, RelV x v ∧ trV x b ∧ bs[i]? = some b := by
  induction p generalizing its with
  | nil => cases r; intro i v h; simp at h
  | cons a l ih =>
    cases r with
    | cons q k =>
      intro i v h
      cases i with
      | zero =>
        simp at h
        subst h
        exact ⟨_, _, q, a, rfl⟩
      | succ i =>
        obtain ⟨x, b, h1, h2, h3⟩ := ih k (by simpa using h)
        exact ⟨x, b, h1, h2, by simpa using h3⟩
theorem truth_trs {prog : Program} {w : World} {A : Around} {vs : List V} {bs : List Bool} {its : List Value} (p : Paired trV vs bs) (r : Vals vs its) : TruthOf prog w A (fun i v => its.toArray[i]? = some v) (fun i => bs.getD i false) := fun i v s Q E hv hq => by
  obtain ⟨x, b, h1, h2, h3⟩ := paired_at p r (show its[i]? = some v by simpa using hv)
  have hg : bs.getD i false = b := by rw [List.getD_eq_getElem?_getD, h3] <;> rfl
  have hq' : Q (bs.getD i false) s := hq
  rw [hg] at hq'
  rcases h2 with rfl | ⟨j, rfl, rfl⟩
  · cases (show v = Value.bool b from h1)
    exact wpAny_truthy_bool hq'
  · obtain ⟨t, e⟩ := (show ∃ t, v = Value.int j t from h1)
    subst e
    exact PySem.P.truthy_int hq'
noncomputable def rAllT (K : PySem.W.Frag) : List V → Hp → VK → Prop := fun vs H Q => ∃ (k : Bool) (a : Addr) (xs : List V) (bs : List Bool), vs = [V.ref a] ∧ SqS K H k a xs ∧ Paired trV xs bs ∧ Q (.bl (bs.all id)) H
theorem all_range' : ∀ bs : List Bool, (List.range bs.length).all (fun i => bs.getD i false) = bs.all id
  | [] => rfl
  | b :: bs => by
    rw [List.length_cons, List.range_succ_eq_map, List.all_cons, List.all_map, List.all_cons]
    have z := all_range' bs
    rw [← z]
    rfl
section
variable {X : Cx}
theorem walks_S {P : Program} {w : World} {A : Around} (hh : A.handled = none) (I ax : Addr) (hne : ax ≠ I) (k : Bool) (items : Array Value) : Walks P w A I [I, ax] [I] items.size (fun i v => items[i]? = some v) (fun i h => SIt h k I ax i ∧ SSrc h k ax items) := by
  cases k with
  | true => exact Walks.list hh I ax hne items
  | false => exact Walks.tuple hh I ax hne items
theorem cr_allT (hc : X.calm = true) : CallR X (.builtin "all") (rAllT X.K) := by
  intro pins s σ H vs us Q I r h
  obtain ⟨k, a, xs, bs, rfl, hs, pr, q⟩ := h
  obtain ⟨its, rv, hl⟩ := Inv.srcS I hs
  rw [Vals.ref1 r]
  have hlt := hl.lt
  have hlen : its.length = bs.length := by have h1 := rv.length; have h2 := Paired.length pr; omega
  refine call_all_walk (iterS hl ⟨_, _, _, _, _, _, _, rfl, walks_S (A := X.A.in1) (I.ok.hd hc) _ a (Nat.ne_of_lt hlt) k its.toArray, ⟨?_, hl.at fun o e => Heap.get?_push_of_some _ e⟩, truth_trs pr rv, fun h' tk hk => ?_⟩)
  · cases k <;> exact ⟨_, Heap.get?_push_size _ rfl, rfl, rfl⟩
  · refine ⟨.bl _, H, I.kept fun b o eo => hk b o (fun hmem => ?_) (Heap.get?_push_of_some _ eo), ?_, q⟩
    · rcases List.mem_cons.mp hmem with e1 | hmem
      · exact absurd (e1 ▸ Heap.lt_size eo) (Nat.lt_irrefl _)
      · cases hmem
    · show Value.bool _ = Value.bool _
      rw [← all_range', List.size_toArray, hlen]
noncomputable def allT : D → Res D
  | .lst ds => match trsD ds with
    | some bs => .ok (.bl (bs.all id))
    | none => .bad
  | .tup ds => match trsD ds with
    | some bs => .ok (.bl (bs.all id))
    | none => .bad
  | _ => .bad
theorem b_allT (hc : X.calm = true) (hm : X.mg "all" = none) : BlM X "all" .S (one allT) := BlM.b hm boot_all' (cr_allT hc) (ne_one (fun d e z => by unfold allT at z; split at z <;> (try split at z) <;> cases z)) (cal_one fun F H x a d Q s ra e q => by
  unfold allT at e
  split at e
  · split at e <;> cases e
    rename_i bs h
    obtain ⟨p, vs, rfl, h1, r1⟩ := ra.lst s
    exact ⟨true, p, vs, bs, rfl, .of h1, trs_rep r1 h, q _ F H (Grow.refl s) (Rep.bl _)⟩
  · split at e <;> cases e
    rename_i bs h
    obtain ⟨p, vs, rfl, h1, r1⟩ := ra.tup s
    exact ⟨false, p, vs, bs, rfl, h1, trs_rep r1 h, q _ F H (Grow.refl s) (Rep.bl _)⟩
  · cases e)
end
end Mir
namespace Mir
open PySem PySem.Spec PyProof.Rows L2
variable [Tn]
/-- the list that the i-th name owns, given away -/
noncomputable def giveG (i : Nat) (r : Env) : Oc := match r[i]? with
  | some (.ow .flat d) => .rt d
  | _ => .bad
theorem rs_retO (i : Nat) {X : Cx} {W : Wi} {x : Str} {pos p2 : Pos} (hN : X.N[i]? = some x := by rfl) (hv : Vis X.env.scope x := by first | exact Or.inl rfl | exact Or.inr (Or.inl rfl) | exact Or.inr (Or.inr rfl)) (hd : (x == ("__debug__" : Str)) = false := by decide)
    (hcd : (x == ("__classdict__" : Str)) = false := by decide) : RS X W (.O .flat) (.Return (some (.Name x pos)) p2) (giveG i) :=
  (ps_ret (pe_var hN hv hd hcd)).imp fun D σ H ⟨H0, F0, fp, F, r, m, o⟩ => by
    unfold giveG at o
    split at o
    · rename_i d h
      obtain ⟨⟨v, h1, h2⟩, h3⟩ := m.ow i _ _ h
      exact ⟨v, h1, o F H v (Same.refl _) m.g0 ⟨fp i, h2, h3⟩⟩
    · exact o.elim
end Mir
namespace Mir
open PySem PySem.Spec PyProof.Rows L2
variable [Tn]
noncomputable def getK : List D → List D → NestedKey → Option D
  | k :: ks, v :: vs, q => if keyOf k = some q then some v else getK ks vs q
  | _, _, _ => none
noncomputable def hasK (ks : List D) (q : NestedKey) : Bool := ks.any fun k => decide (keyOf k = some q)
noncomputable def repK : List D → List D → NestedKey → D → List D
  | k :: ks, v :: vs, q, x => (if keyOf k = some q then x else v) :: repK ks vs q x
  | _, _, _, _ => []
/-- in its place, or at the end -/
noncomputable def setK (ks vs : List D) (kd : D) (q : NestedKey) (x : D) : List D × List D := if hasK ks q = true then (ks, repK ks vs q x) else (ks ++ [kd], vs ++ [x])
noncomputable def delK : List D → List D → NestedKey → List D × List D
  | k :: ks, v :: vs, q => if keyOf k = some q then delK ks vs q else (k :: (delK ks vs q).1, v :: (delK ks vs q).2)
  | _, _, _ => ([], [])
/-- a tuple as a key -/
noncomputable def keyT (d : D) : Option NestedKey := match d with
  | .tup xs => match keyOf (.tup xs) with
    | some q => if q.depth ≤ 8 then some q else none
    | none => none
  | _ => none
theorem keyT_some {d : D} {q : NestedKey} (h : keyT d = some q) : (∃ xs, d = .tup xs) ∧ keyOf d = some q ∧ q.depth ≤ 8 := by
  unfold keyT at h
  split at h
  · split at h
    · rename_i e
      split at h
      · rename_i hd
        cases h
        exact ⟨⟨_, rfl⟩, e, hd⟩
      · cases h
    · cases h
  · cases h
section
variable {G : GC} {F H : Hp}
noncomputable abbrev EN := NestedKey × Addr × Value
theorem getK_at {q : NestedKey} : ∀ {xs : List EN} {ws : List V} {ks vs : List D}, Vals ws (xs.map (·.2.2)) → ks.map keyOf = xs.map (fun x => some x.1) → RepAll G F ws vs →
    (getK ks vs q = none ∧ atKey xs q = none) ∨ ∃ d e v, getK ks vs q = some d ∧ atKey xs q = some e ∧ RelV v e.2 ∧ Rep G F v d
  | [], _, ks, _, wv, ke, vr => by
    cases ks with
    | nil => exact .inl ⟨by unfold getK; rfl, rfl⟩
    | cons k ks => cases ke
  | x :: xs, _, ks, _, wv, ke, vr => by
    cases ks with
    | nil => cases ke
    | cons k ks =>
      rw [List.map_cons, List.map_cons, List.cons.injEq] at ke
      cases wv with
      | cons r1 rt =>
        cases vr with
        | cons p1 pt =>
          by_cases h : x.1 = q
          · refine .inr ⟨_, x.2, _, ?_, ?_, r1, p1⟩
            · rw [getK, if_pos (by rw [ke.1, h])]
            · simp [atKey, List.find?_cons, h]
          · have e1 : ∀ v vs', getK (k :: ks) (v :: vs') q = getK ks vs' q := fun v vs' => by rw [getK, if_neg (by rw [ke.1]; intro z; exact h (Option.some.inj z))]
            have e2 : atKey (x :: xs) q = atKey xs q := by simp [atKey, List.find?_cons, h]
            rw [e1, e2]
            exact getK_at rt ke.2 pt
theorem hasK_at {q : NestedKey} : ∀ {xs : List EN} {ks : List D}, ks.map keyOf = xs.map (fun x => some x.1) → hasK ks q = (atKey xs q).isSome
  | [], ks, ke => by
    cases ks with
    | nil => rfl
    | cons k ks => cases ke
  | x :: xs, ks, ke => by
    cases ks with
    | nil => cases ke
    | cons k ks =>
      rw [List.map_cons, List.map_cons, List.cons.injEq] at ke
      have ih := hasK_at (q := q) ke.2
      unfold hasK at ih ⊢
      rw [List.any_cons, ih, ke.1]
      by_cases h : x.1 = q
      · simp [atKey, List.find?_cons, h]
      · have z : ¬ (some x.1 = some q) := fun z => h (Option.some.inj z)
        simp [atKey, List.find?_cons, h, z]
/-- a table in the heap -/
structure DR (G : GC) (F : Hp) (xs : List EN) (ws : List V) (ks vs : List D) : Prop where
  wv : Vals ws (xs.map (·.2.2))
  kr : RepAll G F (xs.map fun x => V.ref x.2.1) ks
  ke : ks.map keyOf = xs.map (fun x => some x.1)
  vr : RepAll G F ws vs
theorem DR.mono {F' : Hp} {xs : List EN} {ws : List V} {ks vs : List D} (h : DR G F xs ws ks vs) (s : Same F F') : DR G F' xs ws ks vs := ⟨h.wv, h.kr.mono s, h.ke, h.vr.mono s⟩
theorem DR.len {xs : List EN} {ws : List V} {ks vs : List D} (h : DR G F xs ws ks vs) : xs.length = ks.length := by have := congrArg List.length h.ke; simpa using this.symm
theorem DR.nil : DR G F [] [] [] [] := ⟨.nil, .nil, rfl, .nil⟩
theorem DR.tail {x : EN} {xs : List EN} {w : V} {ws : List V} {k v : D} {ks vs : List D} (h : DR G F (x :: xs) (w :: ws) (k :: ks) (v :: vs)) : DR G F xs ws ks vs ∧ RelV w x.2.2 ∧ Rep G F (.ref x.2.1) k ∧ keyOf k = some x.1 ∧ Rep G F w v := by
  obtain ⟨h1, h2, h3, h4⟩ := h
  rw [List.map_cons, List.map_cons, List.cons.injEq] at h3
  cases h1 with
  | cons a b =>
    cases h2 with
    | cons c d =>
      cases h4 with
      | cons e f => exact ⟨⟨b, d, h3.2, f⟩, a, c, h3.1, e⟩
theorem DR.cons {x : EN} {xs : List EN} {w : V} {ws : List V} {k v : D} {ks vs : List D} (h : DR G F xs ws ks vs) (a : RelV w x.2.2) (b : Rep G F (.ref x.2.1) k) (c : keyOf k = some x.1) (d : Rep G F w v) : DR G F (x :: xs) (w :: ws) (k :: ks) (v :: vs) :=
  ⟨.cons a h.wv, .cons b h.kr, by rw [List.map_cons, List.map_cons, c, h.ke], .cons d h.vr⟩
theorem DR.shape {xs : List EN} {ws : List V} {ks vs : List D} (h : DR G F xs ws ks vs) : (xs = [] ∧ ws = [] ∧ ks = [] ∧ vs = []) ∨ ∃ x xs' w ws' k ks' v vs', xs = x :: xs' ∧ ws = w :: ws' ∧ ks = k :: ks' ∧ vs = v :: vs' := by
  obtain ⟨h1, h2, h3, h4⟩ := h
  cases xs with
  | nil => cases h1; cases h2; cases h4; exact .inl ⟨rfl, rfl, rfl, rfl⟩
  | cons x xs =>
    cases h1
    cases h2
    cases h4
    exact .inr ⟨_, _, _, _, _, _, _, _, rfl, rfl, rfl, rfl⟩
theorem DR.snoc {x : EN} {w : V} {k v : D} (a : RelV w x.2.2) (b : Rep G F (.ref x.2.1) k) (c : keyOf k = some x.1) (d : Rep G F w v) : ∀ {xs : List EN} {ws : List V} {ks vs : List D}, DR G F xs ws ks vs → DR G F (xs ++ [x]) (ws ++ [w]) (ks ++ [k]) (vs ++ [v])
  | xs, ws, ks, vs, h => by
    rcases h.shape with ⟨rfl, rfl, rfl, rfl⟩ | ⟨x', xs', w', ws', k', ks', v', vs', rfl, rfl, rfl, rfl⟩
    · exact DR.nil.cons a b c d
    · obtain ⟨t, e1, e2, e3, e4⟩ := h.tail
      exact (DR.snoc a b c d t).cons e1 e2 e3 e4
theorem DR.rep {q : NestedKey} {u : Value} {w : V} {d : D} (a : RelV w u) (b : Rep G F w d) : ∀ {xs : List EN} {ws : List V} {ks vs : List D}, DR G F xs ws ks vs → ∃ ws', DR G F (xs.map (putAt q u)) ws' ks (repK ks vs q d)
  | xs, ws, ks, vs, h => by
    rcases h.shape with ⟨rfl, rfl, rfl, rfl⟩ | ⟨x', xs', w', ws', k', ks', v', vs', rfl, rfl, rfl, rfl⟩
    · exact ⟨[], by rw [repK]; exact DR.nil; all_goals simp⟩
    · obtain ⟨t, e1, e2, e3, e4⟩ := h.tail
      obtain ⟨ws2, t2⟩ := DR.rep (q := q) a b t
      rw [repK, List.map_cons]
      by_cases hq : x'.1 = q
      · rw [if_pos (by rw [e3, hq])]
        have e : putAt q u x' = (x'.1, x'.2.1, u) := if_pos hq
        rw [e]
        exact ⟨w :: ws2, t2.cons a e2 e3 b⟩
      · rw [if_neg (by rw [e3]; intro z; exact hq (Option.some.inj z))]
        have e : putAt q u x' = x' := if_neg hq
        rw [e]
        exact ⟨w' :: ws2, t2.cons e1 e2 e3 e4⟩
theorem DR.set {q : NestedKey} {u : Value} {w : V} {b : Addr} {kd d : D} {xs : List EN} {ws : List V} {ks vs : List D} (h : DR G F xs ws ks vs) (a : RelV w u) (rb : Rep G F (.ref b) kd) (hk : keyOf kd = some q) (rw' : Rep G F w d) :
    ∃ ws', DR G F (storedH xs q b u) ws' (setK ks vs kd q d).1 (setK ks vs kd q d).2 := by
  unfold storedH setK
  rw [hasK_at h.ke]
  by_cases e : (atKey xs q).isSome = true
  · rw [if_pos e, if_pos e]
    exact DR.rep a rw' h
  · rw [if_neg e, if_neg e]
    exact ⟨_, DR.snoc (x := (q, b, u)) a rb hk rw' h⟩
theorem DR.del {q : NestedKey} : ∀ {xs : List EN} {ws : List V} {ks vs : List D}, DR G F xs ws ks vs → ∃ ws', DR G F (withoutH xs q) ws' (delK ks vs q).1 (delK ks vs q).2
  | xs, ws, ks, vs, h => by
    rcases h.shape with ⟨rfl, rfl, rfl, rfl⟩ | ⟨x', xs', w', ws', k', ks', v', vs', rfl, rfl, rfl, rfl⟩
    · exact ⟨[], by rw [delK]; exact DR.nil; all_goals simp⟩
    · obtain ⟨t, e1, e2, e3, e4⟩ := h.tail
      obtain ⟨ws2, t2⟩ := DR.del (q := q) t
      rw [delK]
      by_cases hq : x'.1 = q
      · rw [if_pos (by rw [e3, hq])]
        have e : withoutH (x' :: xs') q = withoutH xs' q := by simp [withoutH, List.filter_cons, hq]
        rw [e]
        exact ⟨ws2, t2⟩
      · rw [if_neg (by rw [e3]; intro z; exact hq (Option.some.inj z))]
        have e : withoutH (x' :: xs') q = x' :: withoutH xs' q := by simp [withoutH, List.filter_cons, hq]
        rw [e]
        exact ⟨w' :: ws2, t2.cons e1 e2 e3 e4⟩
theorem RdD.dr {v : V} {ks vs : List D} (s : Same F H) (h : RdD G F H v (.dic ks vs)) : ∃ a o xs ws, v = .ref a ∧ H a = some (.ext (isObj' a o)) ∧ (a == sysModules) = false ∧ DicO G o xs ∧ DR G F xs ws ks vs := by
  obtain ⟨a, o, xs, ws, rfl, h1, h2, h3, h4, h5, h6, h7⟩ := h.dic s
  exact ⟨a, o, xs, ws, rfl, h1, h2, h3, h4, h5, h6, h7⟩
theorem Own.dr {a : Addr} {o : Obj} {xs : List EN} {ws : List V} {ks vs : List D} (e : H a = some (.ext (isObj' a o))) (f : F a = none) (n : (a == sysModules) = false) (d : DicO G o xs) (r : DR G F xs ws ks vs) : Own G F H .flat (.ref a) (.dic ks vs) [a] :=
  .dic rfl e f n d r.wv r.kr r.ke (OwnAll.of_rep r.vr) (by simp)
end
section
variable {X : Cx} {pins : List (Addr × Obj)} {σ : L2.St} {H F : Hp} {s : Shared} {k : Nat}
theorem room8 (hr : Room k X.A) : (nestedKind X.prog X.w).room X.A.in1 := by
  have := hr.un
  show X.A.units + 1 + 8 < cLine
  omega
theorem dr_of (I : L2.Inv X pins σ H s) (sF : Same F H) {p : Addr} {o : Obj} {xs : List EN} {ws : List V} {ks vs : List D} (hp : H p = some (.ext (isObj' p o))) (dd : DicO (gOf X) o xs) (h : DR (gOf X) F xs ws ks vs) : s.heap.DictOfH (nestedKind X.prog X.w) p xs :=
  dic_of I sF hp dd h.kr h.ke
theorem key_is (I : L2.Inv X pins σ H s) (sF : Same F H) {b : Addr} {kd : D} {q : NestedKey} (r : Rep (gOf X) F (.ref b) kd) (h : keyT kd = some q) : (nestedKind X.prog X.w).is s.heap q b :=
  ⟨nested_of I sF r (keyT_some h).2.1 rfl, (keyT_some h).2.2⟩
/-- what stands behind a change -/
theorem dicO_of {p : Addr} {h' : Heap} {xs : List EN} (h : h'.DictOfH (nestedKind X.prog X.w) p xs) (hz : xs.length ≤ sizeLine) : ∃ o, h'.get? p = some o ∧ DicO (gOf X) o xs := by
  obtain ⟨o, es, ep, h1, h2, h3, h4, h5, h6⟩ := h
  exact ⟨o, h1, h2, ⟨es, ep, h3, h4⟩, h6, fun x hx => (h5 x hx).2, hz⟩
theorem ext_ok {p : Addr} {o : Obj} {h' : Heap} {P : Program} {w : World} {H' : Hp} (e : h'.get? p = some o) : ObjOk P w H' h' p (.ext (isObj' p o)) := ⟨e, ⟨o, e⟩, fun _ _ q k => k _ q⟩
theorem dicO_nil {o : Obj} (h : o = { cls := .type "dict", data := .dict #[] }) {G : GC} : DicO G o [] := by
  subst h
  exact ⟨⟨rfl, rfl, rfl⟩, ⟨#[], 0, rfl, rfl⟩, List.nodup_nil, (fun _ z => nomatch z), Nat.zero_le _⟩
theorem re_dic0 {W : Wi} {pos : Pos} : RE X W (.O .flat) (.Dict [] [] pos) (fun _ => .ok (.dic [] [])) := ⟨fun pins s σ H Q I ⟨H0, F0, fp, F, r, m, o⟩ => by
  have hn : (s.heap.objs.size == sysModules) = false := beq_eq_false_iff_ne.mpr (Ne.symm (Nat.ne_of_lt I.big))
  have hf := I.hok.fresh (Nat.le_refl _)
  refine wpAny_Dict_empty ⟨.ref s.heap.objs.size, _, I.laid (a := s.heap.objs.size) (o := .ext (isObj' s.heap.objs.size { cls := .type "dict", data := .dict #[] })) (t' := s.toks) (fun _ _ q => Heap.get?_push_of_some _ q) (Nat.le_refl _) (ext_ok (Heap.get?_push_size _ rfl)), rfl, ?_⟩
  exact o F _ (Grow.own m.sub hf) _ ⟨[_], Own.dr upd_same (m.sub.free hf) hn (dicO_nil rfl) DR.nil, fun a ha => by rw [List.mem_singleton.mp ha]; exact hf⟩⟩
end
noncomputable def ixD (a i : D) : Res D := match a with
  | .dic ks vs => match keyT i with
    | some q => match getK ks vs q with
      | some d => .ok d
      | none => .bad
    | none => .bad
  | a => ixS a i
noncomputable def notInD (x xs : D) : Res D := match xs with
  | .dic ks _ => match keyT x with
    | some q => .ok (.bl (!hasK ks q))
    | none => .bad
  | xs => notInS x xs
theorem ne_ixD : NoEr2 ixD := fun a b e z => by
  unfold ixD at z
  split at z
  · split at z
    · split at z <;> cases z
    · cases z
  · exact ne_ix _ _ _ z
theorem ne_notInD : NoEr2 notInD := fun a b e z => by
  unfold notInD at z
  split at z
  · split at z <;> cases z
  · exact ne_notIn _ _ _ z
section
variable {X : Cx} {W : Wi} {k : Nat} {a b c e : Expr} {fa fb fe : Env → Res D} {pos : Pos}
/-- a dict and a key -/
noncomputable def rDK (X : Cx) (P : List EN → NestedKey → Hp → Prop) : V → V → Hp → Prop := fun x y H => ∃ (F : Hp) (p b : Addr) (o : Obj) (xs : List EN) (ws : List V) (ks vs : List D) (kd : D) (q : NestedKey), x = .ref p ∧ y = .ref b ∧ Same F H ∧ H p = some (.ext (isObj' p o)) ∧ (p == sysModules) = false ∧
  DicO (gOf X) o xs ∧ DR (gOf X) F xs ws ks vs ∧ Rep (gOf X) F (.ref b) kd ∧ keyT kd = some q ∧ P xs q H
theorem ix_dic (hr : Room k X.A) : IxR X (fun x y H Q => rDK X (fun xs q H => ∃ e v, atKey xs q = some e ∧ RelV v e.2 ∧ Q v H) x y H) := by
  intro value slice pins s σ H x y u1 u2 Q I r1 r2 h hs
  obtain ⟨F, p, b, o, xs, ws, ks, vs, kd, q, rfl, rfl, sF, hp, hn, dd, dr, rk, hk, e, v, he, rv, hq⟩ := h
  cases r1
  cases r2
  exact tail_any (dr_of I sF hp dd dr).typeIs slot_dict_getitem.lookup (wpAny_getItem_heap (room8 hr) (key_is I sF rk hk) (dr_of I sF hp dd dr) he ⟨v, H, I.tok _, rv, hq⟩) hs
theorem op_notInDic (hr : Room k X.A) : OpR X (compareOp .NotIn) (fun y x H Q => rDK X (fun xs q H => Q (.bl (!(atKey xs q).isSome)) H) x y H) := by
  intro pins s σ H y x u2 u1 Q I r2 r1 h
  obtain ⟨F, p, b, o, xs, ws, ks, vs, kd, q, rfl, rfl, sF, hp, hn, dd, dr, rk, hk, hq⟩ := h
  cases r1
  cases r2
  exact wpAny_notIn_heap (room8 hr) (key_is I sF rk hk) hn (dr_of I sF hp dd dr) ⟨.bl _, H, I.tok _, rfl, hq⟩
theorem key_ref {G : GC} {F H : Hp} {y : V} {kd : D} {q : NestedKey} (h : RdD G F H y kd) (hk : keyT kd = some q) : ∃ b, y = .ref b ∧ Rep G F (.ref b) kd := by
  obtain ⟨⟨xs, rfl⟩, _⟩ := keyT_some hk
  have z := h.tupS
  cases z with
  | tup h1 h2 => exact ⟨_, rfl, .tup h1 h2⟩
theorem ixD_ok : OpD (gOf X) (fun x y H Q => rIx X.K x y H Q ∨ rDK X (fun xs q H => ∃ e v, atKey xs q = some e ∧ RelV v e.2 ∧ Q v H) x y H) .R .R .S ixD := fun F H x y a b d Q Ha Hb s ka kb e k => by
  unfold ixD at e
  split at e
  · rename_i ks vs
    split at e
    · rename_i q hq
      split at e <;> cases e
      rename_i hg
      obtain ⟨p, o, xs, ws, rfl, h1, h2, h3, h4⟩ := RdD.dr s (show RdD (gOf X) F H x _ from ka)
      obtain ⟨b', rfl, rb⟩ := key_ref (show RdD (gOf X) F H y _ from kb) hq
      rcases getK_at (q := q) h4.wv h4.ke h4.vr with ⟨z, _⟩ | ⟨d', e', v, z1, z2, z3, z4⟩
      · rw [hg] at z; cases z
      · rw [hg] at z1
        cases z1
        exact .inr ⟨F, p, b', o, xs, ws, ks, vs, _, q, rfl, rfl, s, h1, h2, h3, h4, rb, hq, e', v, z2, z3, k v F H (Grow.refl s) z4⟩
    · cases e
  · exact .inl (ix_ok F H x y _ b d Q Ha Hb s ka kb e k)
theorem re_ix (hr : Room k X.A) (ha : RE X W .R a fa) (hb : RE X W .R b fb) (hs : PlainIx b := by intro _ _; rfl) : RE X W .S (.Subscript a b pos) (fun r => fa r >>= fun x => fb r >>= fun y => ixD x y) := (pe_ix (ix_seq.or (ix_dic hr)) ha hb hs).imp (t_op ixD_ok ne_ixD)
theorem notInD_ok : OpD (gOf X) (fun y x H Q => rNotInD X.K y x H Q ∨ rDK X (fun xs q H => Q (.bl (!(atKey xs q).isSome)) H) x y H) .R .R .S notInD := fun F H y x b a d Q Ha Hb s kb ka e k => by
  unfold notInD at e
  split at e
  · rename_i ks vs
    split at e <;> cases e
    rename_i q hq
    obtain ⟨p, o, xs, ws, rfl, h1, h2, h3, h4⟩ := RdD.dr s (show RdD (gOf X) F H x _ from ka)
    obtain ⟨b', rfl, rb⟩ := key_ref (show RdD (gOf X) F H y _ from kb) hq
    exact .inr ⟨F, p, b', o, xs, ws, ks, vs, _, q, rfl, rfl, s, h1, h2, h3, h4, rb, hq, by show Q _ H; rw [← hasK_at h4.ke]; exact k _ F H (Grow.refl s) (Rep.bl _)⟩
  · exact .inl (notIn_ok F H y x b _ d Q Ha Hb s kb ka e k)
theorem c_notIn (hr : Room k X.A) : Cmp X .NotIn notInD := ⟨⟨_, (op_notInD (units65 hr)).or (op_notInDic hr), notInD_ok⟩, ne_notInD⟩
end
/-- the thing that the i-th name owns -/
noncomputable def ownF (i : Nat) (r : Env) : Option D := match r[i]? with
  | some (.ow .flat d) => some d
  | _ => none
theorem ownF_some {i : Nat} {r : Env} {d : D} (h : ownF i r = some d) : r[i]? = some (.ow .flat d) := by
  unfold ownF at h
  split at h
  · rename_i e; cases h; exact e
  · cases h
/-- what stands behind d[i] = v -/
noncomputable def setD (d i v : D) : Res D := match d with
  | .dic ks vs => match keyT i with
    | some q => if ks.length < lim then .ok (.dic (setK ks vs i q v).1 (setK ks vs i q v).2) else .bad
    | none => .bad
  | .lst ds => match i with
    | .int n => match ixN ds.length n with
      | some j => .ok (.lst (ds.set j v))
      | none => .bad
    | _ => .bad
  | _ => .bad
noncomputable def setG (i : Nat) (fv fi : Env → Res D) (r : Env) : Oc := lift (fv r) r fun v => match ownF i r with
  | some d => lift (fi r) r fun n => match setD d n v with
    | .ok d' => .nx (r.set i (.ow .flat d'))
    | _ => .bad
  | none => .bad
section
variable {G : GC} {J : L2.St → Prop} {H0 F0 F H : Hp} {fp : Nat → List Addr} {σ : L2.St} {r : Env}
theorem MS.dic (m : MS G J H0 F0 fp F σ H r) {i : Nat} {ks vs : List D} (h : r[i]? = some (.ow .flat (.dic ks vs))) : ∃ a o xs ws, σ[i]? = some (some (.ref a)) ∧ H a = some (.ext (isObj' a o)) ∧ (a == sysModules) = false ∧ DicO G o xs ∧ DR G F xs ws ks vs ∧ fp i = [a] := by
  obtain ⟨⟨v, h1, h2⟩, _⟩ := m.ow i _ _ h
  generalize fp i = A at h2
  cases h2 with
  | dic _ e _ z1 z2 z3 z4 z5 ra na =>
    obtain ⟨rfl, rr⟩ := ra.to_rep
    exact ⟨_, _, _, _, h1, e, z1, z2, ⟨z3, z4, z5, rr⟩, rfl⟩
theorem MS.dicUpd (m : MS G J H0 F0 fp F σ H r) {i : Nat} {d : D} {a : Addr} {o : Obj} {xs : List EN} {ws : List V} {ks vs : List D} (h : r[i]? = some (.ow .flat d)) (hv : σ[i]? = some (some (.ref a))) (hf : fp i = [a]) (hn : (a == sysModules) = false) (dd : DicO G o xs) (dr : DR G F xs ws ks vs) :
    ∃ fp', MS G J H0 F0 fp' F σ (upd H a (.ext (isObj' a o))) (r.set i (.ow .flat (.dic ks vs))) := by
  obtain ⟨⟨v, h1, h2⟩, _⟩ := m.ow i _ _ h
  have fa := (h2.there a (by rw [hf]; simp)).1
  exact m.write (A := [a]) h hv (by rw [hf]; simp) (Own.dr upd_same fa hn dd dr) fun b hb => .inl (by rw [hf]; exact hb)
end
section
variable {X : Cx} {W : Wi} {k : Nat} {kk : Kd} {e iv : Expr} {fe fi : Env → Res D} {pos ps p2 apos cpos : Pos} {x : Str}
noncomputable def rSetDic (X : Cx) : TSet := fun ov i v H Q => rDK X (fun xs q H => xs.length ≤ lim ∧ ∀ p b o' u, ov = .ref p → i = .ref b → RelV v u → DicO (gOf X) o' (storedH xs q b u) → Q (upd H p (.ext (isObj' p o')))) ov i H
theorem storedH_len (xs : List EN) (q : NestedKey) (b : Addr) (u : Value) : (storedH xs q b u).length ≤ xs.length + 1 := by
  unfold storedH
  split
  · simp
  · simp
theorem set_dic (hr : Room k X.A) : PSet X (rSetDic X) := by
  intro pins s σ H ov i v uo ui u Q I ro ri rv h
  obtain ⟨F, p, b, o, xs, ws, ks, vs, kd, q, rfl, rfl, sF, hp, hn, dd, dr, rk, hk, hl, hq⟩ := h
  cases ro
  cases ri
  refine wpAny_setItem_heap (hsz := dd.sz) (room8 hr) (key_is I sF rk hk) (dr_of I sF hp dd dr) fun h' hm' hs => ?_
  have hz : (storedH xs q b u).length ≤ sizeLine := by
    have h1 := storedH_len xs q b u
    have h2 : lim + 1 ≤ sizeLine := by rw [sizeLine_eq]; decide
    omega
  obtain ⟨o', e1, e2⟩ := dicO_of hm' hz
  exact ⟨_, d_write I (by rw [hp]; exact True.intro) hs ⟨o', e1⟩ (ext_ok e1), hq p b o' u rfl rfl rv e2⟩
theorem PSet.or {t t' : TSet} (h : PSet X t) (h' : PSet X t') : PSet X (fun o i v H Q => t o i v H Q ∨ t' o i v H Q) := by
  intro pins s σ H ov i v uo ui u Q I ro ri rv q
  rcases q with q | q
  · exact h pins s σ H ov i v uo ui u Q I ro ri rv q
  · exact h' pins s σ H ov i v uo ui u Q I ro ri rv q
theorem rs_setItem (i : Nat) (hr : Room k X.A) (he : RE X W .S e fe) (hi : RE X W .R iv fi) (hN : X.N[i]? = some x := by rfl) (hv : Vis X.env.scope x := by first | exact Or.inl rfl | exact Or.inr (Or.inl rfl) | exact Or.inr (Or.inr rfl)) (hd : (x == ("__debug__" : Str)) = false := by decide)
    (hcd : (x == ("__classdict__" : Str)) = false := by decide) (ha : ∀ v, assign (.Subscript (.Name x ps) iv p2) X.env v = (do
      let ov ← holding [v] (eval (.Name x ps) X.env)
      let iv ← holding [v, ov] (eval iv X.env)
      standAt p2
      holding [v, ov, iv] (setItem ov iv v)
      release [v, ov, iv] []) := by intro _; rfl)
    (hs : swapsWithSole [.Subscript (.Name x ps) iv p2] e pos.line X.env = pure false := by rfl) (hw : swappedStores [.Subscript (.Name x ps) iv p2] e X.env = pure none := by rfl) (h1 : (assignEach [.Subscript (.Name x ps) iv p2] X.env).map (·.2) = [assign (.Subscript (.Name x ps) iv p2) X.env] := by rfl) :
    RS X W kk (.Assign [.Subscript (.Name x ps) iv p2] e pos) (setG i fe fi) :=
  (ps_asg he (pg_sub (pe_var hN hv hd hcd) hi (PSet.or set_list (set_dic hr)) ha) hs hw h1).imp fun D σ H ⟨H0, F0, fp, F, r, m, o⟩ => ⟨H0, F0, fp, F, r, m, OutS.lift m o fun F' H' d gr o' v kv => by
    split at o'
    · rename_i dd ho
      have hi := ownF_some ho
      have m' := m.grow gr
      cases dd with
      | lst ds =>
        obtain ⟨a, vs, h1, h2, h3, h4⟩ := m'.lst hi
        refine ⟨.ref a, h1, H0, F0, fp, F', r, m', OutS.lift m' o' fun F2 H2 n g2 o2 u ku => ?_⟩
        cases n with
        | int n =>
          unfold setD at o2
          simp only at o2
          split at o2
          · rename_i z hz
            split at hz
            · rename_i j hj
              cases hz
              obtain ⟨fp', m2⟩ := (m'.grow g2).lstUpd hi h1 h4 ((h3.mono g2.f).set (Mir.Rep.mono g2.f kv) j)
              exact .inl ⟨a, vs, n, j, rfl, RdD.int ku, g2.h.at _ _ h2, by rw [h3.length]; exact hj, o2 fp' F2 σ _ (Same.refl _) m2⟩
            · cases hz
          · exact o2.elim
        | _ => exact o2.elim
      | dic ks vs =>
        obtain ⟨a, ob, xs, ws, h1, h2, h3, h4, h5, h6⟩ := m'.dic hi
        refine ⟨.ref a, h1, H0, F0, fp, F', r, m', OutS.lift m' o' fun F2 H2 n g2 o2 u ku => ?_⟩
        unfold setD at o2
        simp only at o2
        split at o2
        · rename_i z hz
          split at hz
          · rename_i q hq
            split at hz <;> cases hz
            rename_i hl
            obtain ⟨b, rfl, rb⟩ := key_ref (show RdD (gOf X) F2 H2 u _ from ku) hq
            have h5' := h5.mono g2.f
            refine .inr ⟨F2, a, b, ob, xs, ws, ks, vs, n, q, rfl, rfl, g2.sub, g2.h.at _ _ h2, h3, h4, h5', rb, hq, by rw [h5.len]; exact Nat.le_of_lt hl, fun p b' ob' uu ep eb ru dd' => ?_⟩
            cases ep
            cases eb
            obtain ⟨ws', dr'⟩ := h5'.set ru rb (keyT_some hq).2.1 (Mir.Rep.mono g2.f kv)
            obtain ⟨fp', m2⟩ := (m'.grow g2).dicUpd hi h1 h6 h3 dd' dr'
            exact o2 fp' F2 σ _ (Same.refl _) m2
          · cases hz
        · exact o2.elim
      | _ =>
        obtain ⟨⟨v', h1, _⟩, _⟩ := m'.ow i _ _ hi
        refine ⟨v', h1, H0, F0, fp, F', r, m', OutS.lift m' o' fun F2 H2 n g2 o2 u ku => ?_⟩
        exact o2.elim
    · exact o'.elim⟩
end
end Mir
namespace Mir
open PySem PySem.Spec PyProof.Rows L2
variable [Tn]
section
variable {prog : Program} {w : World} {K : Type} [DecidableEq K] {knd : HeapKind prog w K} {A : Around} {E : Value → Shared → Prop} {s : Shared}
noncomputable def EqT (prog : Program) (w : World) (A : Around) (s : Shared) (y x : Value) (b : Bool) : Prop := ∀ (E : Value → Shared → Prop) (Q : Bool → Shared → Prop), Q b s → wpAny (model prog w) A (eqBool y x) Q E s
inductive HitsH (prog : Program) (w : World) (A : Around) (s : Shared) (ys : List (K × Addr × Value)) : List (K × Addr × Value) → Bool → Prop
  | nil : HitsH prog w A s ys [] true
  | miss {x : K × Addr × Value} {r : List (K × Addr × Value)} : atKey ys x.1 = none → HitsH prog w A s ys (x :: r) false
  | hit {x : K × Addr × Value} {e : Addr × Value} {r : List (K × Addr × Value)} {b : Bool} : atKey ys x.1 = some e → EqT prog w A s x.2.2 e.2 true → HitsH prog w A s ys r b → HitsH prog w A s ys (x :: r) b
  | not {x : K × Addr × Value} {e : Addr × Value} {r : List (K × Addr × Value)} : atKey ys x.1 = some e → EqT prog w A s x.2.2 e.2 false → HitsH prog w A s ys (x :: r) false
theorem atKey_of {xs : List (K × Addr × Value)} (hn : (xs.map (·.1)).Nodup) {j : Nat} {k : K} {p : Addr × Value} (h : xs[j]? = some (k, p)) : atKey xs k = some p := by
  induction xs generalizing j with
  | nil => simp at h
  | cons x xs ih =>
    rw [List.map_cons, List.nodup_cons] at hn
    cases j with
    | zero =>
      simp at h
      subst h
      simp [atKey, List.find?_cons]
    | succ j =>
      have h' : xs[j]? = some (k, p) := by simpa using h
      have ne : x.1 ≠ k := fun e => hn.1 (by rw [e]; exact List.mem_map.mpr ⟨(k, p), List.mem_of_getElem? h', rfl⟩)
      have := ih hn.2 h'
      simpa [atKey, List.find?_cons, ne] using this
theorem atKey_no {xs : List (K × Addr × Value)} {k : K} (h : ∀ (j : Nat) (p : Addr × Value), xs[j]? ≠ some (k, p)) : atKey xs k = none := by
  induction xs with
  | nil => rfl
  | cons x xs ih =>
    have ne : x.1 ≠ k := fun e => h 0 x.2 (by simp [← e])
    have := ih fun j p z => h (j + 1) p (by simpa using z)
    simpa [atKey, List.find?_cons, ne] using this
theorem samePairsH {nm : String} {a b : Addr} {xs ys : List (K × Addr × Value)} {r : Bool} {Q : Bool → Shared → Prop} (hu : knd.room A) (ha : (a == sysModules) = false) (hb : (b == sysModules) = false)
    (da : s.heap.DictOfH knd a xs) (db : s.heap.DictOfH knd b ys) (hits : xs.length = ys.length → HitsH prog w A s ys xs r) (h : Q (xs.length == ys.length && r) s) :
    wpAny (model prog w) A (Builtin.Dict.samePairs nm a b) Q E s := by
  obtain ⟨oa, es, ep, hoa, _, hda, hea, hia, hna⟩ := da
  obtain ⟨ob, fs, eq, hob, _, hdb, heb, hib, hnb⟩ := db
  have hla := size_of_entries hea
  have hlb := size_of_entries heb
  rw [← hla, ← hlb] at h hits
  unfold Builtin.Dict.samePairs Builtin.Dict.showsAll
  rw [if_neg (show ¬ (a == sysModules) = true by rw [ha]; decide), if_neg (show ¬ (b == sysModules) = true by rw [hb]; decide)]
  refine wpAny_bind (wpAny_pure (wpAny_bind (wpAny_pure (wpAny_bind (wpAny_dictEntries hoa hda ?_)))))
  dsimp only
  refine wpAny_bind (wpAny_dictEntries hob hdb ?_)
  by_cases hsz : es.size = fs.size
  case neg =>
    rw [if_pos (by simpa using hsz)]
    rw [beq_eq_false_iff_ne.mpr hsz, Bool.false_and] at h
    exact wpAny_bind (wpAny_rule (wpAny_pure h))
  case pos =>
    have h' : Q r s := by simpa [hsz] using h
    have hh := hits hsz
    rw [if_neg (by rw [hsz]; simp)]
    refine wpAny_bind (wpAny_dictEpoch hoa hda (wpAny_bind ?_))
    rw [Std.Legacy.Range.forIn_eq_forIn_range']; simp only [Std.Legacy.Range.size, Nat.sub_zero, Nat.add_sub_cancel, Nat.div_one]
    refine wpAny_forIn_list _ (fun rest q t => t = s ∧ q = (none, ()) ∧ ∃ i, rest = List.range' i (es.size - i) ∧ i ≤ es.size ∧ HitsH prog w A s ys (xs.drop i) r) _ ?_ ?_ _ _ ⟨rfl, rfl, 0, by simp, Nat.zero_le _, hh⟩
    · rintro j rest q t ⟨rfl, rfl, i, hr, hi, hp⟩
      have hlt : i < es.size := by
        rcases Nat.lt_or_ge i es.size with z | z
        · exact z
        · rw [Nat.sub_eq_zero_of_le z] at hr; simp at hr
      obtain ⟨rfl, hrest⟩ : j = i ∧ rest = List.range' (i + 1) (es.size - (i + 1)) := by
        rw [show es.size - i = (es.size - (i + 1)) + 1 by omega, List.range'_succ] at hr
        injection hr with h1 h2
        exact ⟨h1, h2⟩
      have hlx : j < xs.length := by rw [← hla]; exact hlt
      have hej : es[j]? = some (entryOfKey knd xs[j]) := by rw [entry_at hea j, List.getElem?_eq_getElem hlx]; rfl
      have hmem : xs[j] ∈ xs := List.getElem_mem hlx
      refine wpAny_bind (wpAny_dictEntries hoa hda ?_)
      rw [hej]
      rw [List.drop_eq_getElem_cons hlx] at hp
      generalize hx : xs[j] = x at hp hmem
      show wpAny _ _ (holding [Value.ref x.2.1, x.2.2] _ >>= _) _ _ _
      refine wpAny_bind (wpAny_holding (wpAny_bind (wpAny_dictFind_heap hu (hia x hmem) hob hdb heb hib hnb (fun no => ?_) fun jj p hp' => ?_)))
      · have hn := atKey_no no
        have er : r = false := by
          cases hp with
          | miss => rfl
          | hit z => rw [hn] at z; cases z
          | not z => rfl
        rw [er] at h'
        refine wpAny_pure ?_
        show wpAny _ _ (if (!false) = true then _ else _) _ _ _
        rw [if_pos (by decide)]
        exact wpAny_pure (wpAny_pure h')
      · have hs := atKey_of hnb hp'
        have hf : fs[jj]? = some (entryOfKey knd (x.1, p)) := by rw [entry_at heb jj, hp']; rfl
        refine wpAny_bind (wpAny_dictEntries hob hdb ?_)
        rw [hf]
        cases hp with
        | miss z => rw [hs] at z; cases z
        | not z hq =>
          rw [hs] at z
          cases z
          refine wpAny_holding (hq _ _ ?_)
          show wpAny _ _ (if (!false) = true then _ else _) _ _ _
          rw [if_pos (by decide)]
          exact wpAny_pure (wpAny_pure h')
        | hit z hq ht =>
          rw [hs] at z
          cases z
          refine wpAny_holding (hq _ _ ?_)
          show wpAny _ _ (if (!true) = true then _ else _) _ _ _
          rw [if_neg (by decide)]
          refine wpAny_bind (wpAny_dictEpoch hoa hda ?_)
          rw [if_neg (by simp)]
          exact wpAny_pure ⟨rfl, rfl, j + 1, hrest, hlt, ht⟩
    · rintro q t ⟨rfl, rfl, i, hr, hi, hp⟩
      have hin : i = es.size := by
        rcases Nat.lt_or_ge i es.size with z | z
        · rw [show es.size - i = (es.size - (i + 1)) + 1 by omega, List.range'_succ] at hr; exact nomatch hr
        · exact Nat.le_antisymm hi z
      refine wpAny_pure ?_
      rw [hin, hla, List.drop_length] at hp
      cases hp
      exact h'
theorem cmpH {op : CmpOp} {b : Bool} {a c : Addr} {xs ys : List (K × Addr × Value)} {r : Bool} {Q : Value → Shared → Prop} (ho : (op = .Eq ∧ b = true) ∨ (op = .NotEq ∧ b = false)) (hu : knd.room A.in1) (hv : A.units < cLine) (ha : (a == sysModules) = false) (hc : (c == sysModules) = false)
    (da : s.heap.DictOfH knd a xs) (dc : s.heap.DictOfH knd c ys) (hits : xs.length = ys.length → HitsH prog w A.in1 s ys xs r) (h : Q (.bool (if b = true then (xs.length == ys.length && r) else !(xs.length == ys.length && r))) s) :
    wpAny (model prog w) A (compareOp op (.ref a) (.ref c)) Q E s := by
  rcases ho with ⟨rfl, rfl⟩ | ⟨rfl, rfl⟩
  · refine wpAny_richCompare_same_room (op := .Eq) da.typeIs dc.typeIs PySem.F.slot_dict_eq (wpAny_call_entry PySem.F.slot_dict_eq da.typeIs PySem.F.entry_dict_eq ?_ (PySem.F.args_dict_eq_2 _ _)) hv
    show wpAny _ _ (Builtin.Dict.dictSlotArgs "__eq__" ⟨[.ref a, .ref c], []⟩ >>= _) _ _ s
    unfold Builtin.Dict.dictSlotArgs
    refine wpAny_bind (wpAny_bind (wpAny_notOrdered_dict da.typeIs ?_))
    show wpAny _ _ (pure (Value.ref a, Value.ref c)) _ _ s
    refine wpAny_pure (wpAny_bind (wpAny_isInstance (T := "dict") dc.typeIs PySem.F.sub_dict_dict ?_))
    simp only [Bool.not_true, Bool.false_eq_true, if_false]; refine wpAny_bind (wpAny_pure (wpAny_bind (wpAny_pure (wpAny_bind (samePairsH hu ha hc da dc hits ?_)))))
    exact wpAny_pure ⟨_, rfl, ⟨(fun x => nomatch x), by simpa using h⟩⟩
  · refine wpAny_richCompare_same_room (op := .NotEq) da.typeIs dc.typeIs PySem.F.slot_dict_ne (wpAny_call_entry PySem.F.slot_dict_ne da.typeIs PySem.F.entry_dict_ne ?_ (PySem.F.args_dict_ne_2 _ _)) hv
    show wpAny _ _ (Builtin.Dict.dictSlotArgs "__ne__" ⟨[.ref a, .ref c], []⟩ >>= _) _ _ s
    unfold Builtin.Dict.dictSlotArgs
    refine wpAny_bind (wpAny_bind (wpAny_notOrdered_dict da.typeIs ?_))
    show wpAny _ _ (pure (Value.ref a, Value.ref c)) _ _ s
    refine wpAny_pure (wpAny_bind (wpAny_isInstance (T := "dict") dc.typeIs PySem.F.sub_dict_dict ?_))
    simp only [Bool.not_true, Bool.false_eq_true, if_false]; refine wpAny_bind (wpAny_pure (wpAny_bind (wpAny_pure (wpAny_bind (samePairsH hu ha hc da dc hits ?_)))))
    exact wpAny_pure ⟨_, rfl, ⟨(fun x => nomatch x), by simpa using h⟩⟩
end
/-- whether the values stand in the other table, too -/
noncomputable def sameK : List D → List D → List D → List D → Option Bool
  | k :: ks, v :: vs, ks2, vs2 => match keyOf k with
    | some q => match getK ks2 vs2 q with
      | none => some false
      | some u => match eqS v u with
        | .ok (.bl true) => sameK ks vs ks2 vs2
        | .ok (.bl false) => some false
        | _ => none
    | none => none
  | _, _, _, _ => some true
noncomputable def sameD (ks vs ks2 vs2 : List D) : Option Bool := if ks.length = ks2.length then sameK ks vs ks2 vs2 else some false
noncomputable def eqD (a b : D) : Res D := match a, b with
  | .dic ks vs, .dic ks2 vs2 => match sameD ks vs ks2 vs2 with
    | some b => .ok (.bl b)
    | none => .bad
  | a, b => eqS a b
noncomputable def neD (a b : D) : Res D := match a, b with
  | .dic ks vs, .dic ks2 vs2 => match sameD ks vs ks2 vs2 with
    | some b => .ok (.bl (!b))
    | none => .bad
  | a, b => neS a b
theorem ne_eqD : NoEr2 eqD := fun a b e z => by
  unfold eqD at z
  split at z
  · split at z <;> cases z
  · exact ne_eq _ _ _ z
theorem ne_neD : NoEr2 neD := fun a b e z => by
  unfold neD at z
  split at z
  · split at z <;> cases z
  · exact ne_ne _ _ _ z
section
variable {X : Cx} {pins : List (Addr × Obj)} {σ : L2.St} {H F : Hp} {s : Shared} {k : Nat}
theorem eqT_of (I : L2.Inv X pins σ H s) (sF : Same F H) (hr : X.A.units + 65 < cLine) {v u : V} {x y : Value} {d e : D} {b : Bool} (h : eqS d e = .ok (.bl b)) (rv : Rep (gOf X) F v d) (ru : Rep (gOf X) F u e) (hx : RelV v x) (hy : RelV u y) : EqT X.prog X.w X.A.in1 s x y b := by
  unfold eqS at h
  split at h
  · rename_i p q h1 h2
    split at h
    · rename_i hs
      injection h with h
      injection h with h
      subst h
      obtain ⟨as, r1⟩ := Dp.reads I p v x (rv.dp sF h1) hx
      obtain ⟨bs, r2⟩ := Dp.reads I q u y (ru.dp sF h2) hy
      have z := PySem.W.keq_at (A := X.A) r1 r2 hs.1 hs.2 (show X.A.units + 1 + 64 < cLine by omega)
      exact fun E Q hq => z X.prog X.w E Q hq
    · cases h
  · cases h
theorem hits_of (I : L2.Inv X pins σ H s) (sF : Same F H) (hr : X.A.units + 65 < cLine) {ys : List EN} {us : List V} {ks2 vs2 : List D} (h2 : DR (gOf X) F ys us ks2 vs2) : ∀ {xs : List EN} {ws : List V} {ks vs : List D} {b : Bool}, DR (gOf X) F xs ws ks vs → sameK ks vs ks2 vs2 = some b → HitsH X.prog X.w X.A.in1 s ys xs b
  | xs, ws, ks, vs, b, h, e => by
    rcases h.shape with ⟨rfl, rfl, rfl, rfl⟩ | ⟨x, xs', w, ws', k, ks', v, vs', rfl, rfl, rfl, rfl⟩
    · simp [sameK] at e
      subst e
      exact .nil
    · obtain ⟨t, e1, e2, e3, e4⟩ := h.tail
      rw [sameK, e3] at e
      simp only at e
      rcases getK_at (q := x.1) h2.wv h2.ke h2.vr with ⟨z1, z2⟩ | ⟨d, en, u, z1, z2, z3, z4⟩
      · rw [z1] at e
        cases e
        exact .miss z2
      · rw [z1] at e
        simp only at e
        split at e
        · rename_i he
          exact .hit z2 (eqT_of I sF hr he e4 z4 e1 z3) (hits_of I sF hr h2 t e)
        · rename_i he
          cases e
          exact .not z2 (eqT_of I sF hr he e4 z4 e1 z3)
        · cases e
noncomputable def rDD (X : Cx) (P : Bool → Hp → Prop) : V → V → Hp → Prop := fun x y H => ∃ (F : Hp) (p p2 : Addr) (o o2 : Obj) (xs ys : List EN) (ws us : List V) (ks vs ks2 vs2 : List D) (b : Bool), x = .ref p ∧ y = .ref p2 ∧ Same F H ∧ H p = some (.ext (isObj' p o)) ∧ (p == sysModules) = false ∧
  DicO (gOf X) o xs ∧ DR (gOf X) F xs ws ks vs ∧ H p2 = some (.ext (isObj' p2 o2)) ∧ (p2 == sysModules) = false ∧ DicO (gOf X) o2 ys ∧ DR (gOf X) F ys us ks2 vs2 ∧ sameD ks vs ks2 vs2 = some b ∧ P b H
theorem op_cmpH (hr : Room k X.A) {op : CmpOp} {c : Bool} (ho : (op = .Eq ∧ c = true) ∨ (op = .NotEq ∧ c = false)) : OpR X (compareOp op) (fun x y H Q => rDD X (fun b H => Q (.bl (if c = true then b else !b)) H) x y H) := by
  intro pins s σ H x y u1 u2 Q I r1 r2 h
  obtain ⟨F, p, p2, o, o2, xs, ys, ws, us, ks, vs, ks2, vs2, b, rfl, rfl, sF, hp, hn, dd, dr, hp2, hn2, dd2, dr2, hb, hq⟩ := h
  cases r1
  cases r2
  have hu := hr.un
  unfold sameD at hb
  rw [← dr.len, ← dr2.len] at hb
  split at hb
  · rename_i hl
    refine cmpH ho (room8 hr) (by omega) hn hn2 (dr_of I sF hp dd dr) (dr_of I sF hp2 dd2 dr2) (fun _ => hits_of I sF (by omega) dr2 dr hb) ⟨.bl (if c = true then b else !b), H, I, ?_, hq⟩
    rw [hl, beq_self_eq_true, Bool.true_and] <;> rfl
  · rename_i hl
    cases hb
    refine cmpH (r := true) ho (room8 hr) (by omega) hn hn2 (dr_of I sF hp dd dr) (dr_of I sF hp2 dd2 dr2) (fun z => (hl z).elim) ⟨.bl (if c = true then false else !false), H, I, ?_, hq⟩
    rw [beq_eq_false_iff_ne.mpr hl, Bool.false_and] <;> rfl
theorem eqD_ok' : OpD (gOf X) (fun x y H Q => rEqD X.K x y H Q ∨ rDD X (fun b H => Q (.bl (if true = true then b else !b)) H) x y H) .R .R .S eqD := fun F H x y a b d Q Ha Hb s ka kb e k => by
  unfold eqD at e
  split at e
  · split at e <;> cases e
    rename_i hb
    obtain ⟨p, o, xs, ws, rfl, h1, h2, h3, h4⟩ := RdD.dr s (show RdD (gOf X) F H x _ from ka)
    obtain ⟨p', o', xs', ws', rfl, h1', h2', h3', h4'⟩ := RdD.dr s (show RdD (gOf X) F H y _ from kb)
    exact .inr ⟨F, p, p', o, o', xs, xs', ws, ws', _, _, _, _, _, rfl, rfl, s, h1, h2, h3, h4, h1', h2', h3', h4', hb, k _ F H (Grow.refl s) (Rep.bl _)⟩
  · exact .inl (eq_ok F H x y _ _ d Q Ha Hb s ka kb e k)
theorem neD_ok' : OpD (gOf X) (fun x y H Q => rNeD X.K x y H Q ∨ rDD X (fun b H => Q (.bl (if false = true then b else !b)) H) x y H) .R .R .S neD := fun F H x y a b d Q Ha Hb s ka kb e k => by
  unfold neD at e
  split at e
  · split at e <;> cases e
    rename_i hb
    obtain ⟨p, o, xs, ws, rfl, h1, h2, h3, h4⟩ := RdD.dr s (show RdD (gOf X) F H x _ from ka)
    obtain ⟨p', o', xs', ws', rfl, h1', h2', h3', h4'⟩ := RdD.dr s (show RdD (gOf X) F H y _ from kb)
    exact .inr ⟨F, p, p', o, o', xs, xs', ws, ws', _, _, _, _, _, rfl, rfl, s, h1, h2, h3, h4, h1', h2', h3', h4', hb, k _ F H (Grow.refl s) (Rep.bl _)⟩
  · exact .inl (ne_ok F H x y _ _ d Q Ha Hb s ka kb e k)
theorem c_eq (hr : Room k X.A) : Cmp X .Eq eqD := ⟨⟨_, (op_eqD hr.units).or (op_cmpH hr (.inl ⟨rfl, rfl⟩)), eqD_ok'⟩, ne_eqD⟩
theorem c_ne (hr : Room k X.A) : Cmp X .NotEq neD := ⟨⟨_, (op_neD hr.units).or (op_cmpH hr (.inr ⟨rfl, rfl⟩)), neD_ok'⟩, ne_neD⟩
end
section
variable {prog : Program} {w : World} {A : Around} {E : Value → Shared → Prop} {s : Shared}
theorem dictCopyH {o : Addr} {xs : List EN} {Q : Value → Shared → Prop} (hu : (nestedKind prog w).room A.in1.in1) (hoS : (o == sysModules) = false) (ho : s.heap.DictOfH (nestedKind prog w) o xs) (hsz : xs.length ≤ sizeLine) (hap : (xs.map fun x => (nestedKind prog w).hash x.1).Nodup)
    (h : ∀ h', h'.DictOfH (nestedKind prog w) s.heap.objs.size xs → Heap.SameBut s.heap.objs.size (s.heap.push { cls := .type "dict", data := .dict #[] }) h' → Q (.ref s.heap.objs.size) { s with heap := h' }) :
    wpAny (model prog w) A (call (.type "dict") [.ref o]) Q E s := by
  refine callType_codes (Q₁ := fun ob t => ob = .ref s.heap.objs.size ∧ t = { s with heap := s.heap.push { cls := .type "dict", data := .dict #[] } }) F.kt_called_dict (F.kt_typeCall_dict_1 _) F.entry_dict_init (kt_code_dict_new _ ⟨rfl, rfl⟩) ?_
  rintro ob t ⟨rfl, rfl⟩
  have hnew : (s.heap.push { cls := .type "dict", data := .dict #[] }).DictOfH (nestedKind prog w) s.heap.objs.size [] := Heap.DictOfH.new s.heap
  have hty := keyed_apart nestedKind_stays ho
  have hn := ho.nodup
  obtain ⟨oo, es, ep, hg, hc, hd, he, hi, hnn⟩ := id ho
  have hlt := Heap.lt_size hg
  have ho' : (s.heap.push { cls := .type "dict", data := .dict #[] }).DictOfH (nestedKind prog w) o xs :=
    ⟨oo, es, ep, Heap.get?_push_of_some _ hg, hc, hd, he, fun x hx => nestedKind_stays.stays (fun b u _ _ q _ => Heap.get?_push_of_some _ q) (hi x hx), hnn⟩
  refine ⟨hnew.typeIs, F.args_dict_init_2 _ _, ?_⟩
  unfold Builtin.«dict.__init__» Builtin.Dict.selfAndRest
  refine wpAny_bind (wpAny_bind (wpAny_notOrdered_dict hnew.typeIs ?_))
  show wpAny _ _ (pure (s.heap.objs.size, [Value.ref o])) _ _ _
  refine wpAny_pure ?_
  show wpAny _ _ (Builtin.Dict.updateFrom "dict.__init__" s.heap.objs.size (.ref o) [] .none) _ _ _
  refine wpAny_mono (updateFrom_dictH (R := fun r s' => r = .ok (.ret .none) ∧ Q (.ref s.heap.objs.size) s') .none hu (Nat.ne_of_gt hlt) hoS hnew ho' (.inr ⟨fun x hx => ?_, hap⟩) (by simpa using hsz) fun h' h1 h2 h3 => ⟨rfl, ?_⟩) (fun fin s' z => ?_) fun e s' z => ?_
  · obtain ⟨u, hu1, hu2⟩ := hty x hx
    exact ⟨u, Heap.get?_push_of_some _ hu1, hu2⟩
  · rw [storedAllH_nil_of_nodup xs hn] at h1
    exact h h' h1 h3
  · cases fin with
    | done f => obtain ⟨z1, z2⟩ := z; cases z1; exact ⟨rfl, z2⟩
    | again c => exact ⟨z.1, codeAny_mono z.2 fun r s1 q => by obtain ⟨q1, q2⟩ := q; cases q1; exact ⟨rfl, q2⟩⟩
  · obtain ⟨z1, z2⟩ := z
    cases z1
end
mutual
/-- a key's hash, where no text is in it -/
noncomputable def nh : NestedKey → Option Int
  | .none => some (reduceHash 0xFCA86420)
  | .num i => some (hashInt i)
  | .text _ => none
  | .tup ks => match nhs ks with
    | some hs => some (reduceHash (Builtin.Tuple.tupleHashOf hs))
    | none => none
noncomputable def nhs : List NestedKey → Option (List Int)
  | [] => some []
  | k :: ks => match nh k, nhs ks with
    | some h, some hs => some (h :: hs)
    | _, _ => none
end
mutual
theorem nh_eq (w : World) : ∀ {k : NestedKey} {h : Int}, nh k = some h → NestedKey.hash w k = h
  | .none, h, e => by rw [nh] at e; cases e; rw [NestedKey.hash]
  | .num i, h, e => by rw [nh] at e; cases e; rw [NestedKey.hash]
  | .text x, h, e => by rw [nh] at e; cases e
  | .tup ks, h, e => by
    rw [nh] at e
    split at e
    · rename_i hs hh
      cases e
      rw [NestedKey.hash, nhs_eq w hh]
    · cases e
theorem nhs_eq (w : World) : ∀ {k : List NestedKey} {h : List Int}, nhs k = some h → NestedKey.hashes w k = h
  | [], h, e => by rw [nhs] at e; cases e; rw [NestedKey.hashes]
  | k :: ks, h, e => by
    rw [nhs] at e
    split at e
    · rename_i a b h1 h2
      cases e
      rw [NestedKey.hashes, nh_eq w h1, nhs_eq w h2]
    · cases e
end
/-- the keys' hashes -/
noncomputable def hashesK : List D → Option (List Int)
  | [] => some []
  | k :: ks => match keyOf k with
    | some q => match nh q, hashesK ks with
      | some h, some hs => some (h :: hs)
      | _, _ => none
    | none => none
noncomputable def apartK (ks : List D) : Bool := match hashesK ks with
  | some hs => decide hs.Nodup
  | none => false
theorem hashes_at {P : Program} (w : World) : ∀ {xs : List EN} {ks : List D} {hs : List Int}, ks.map keyOf = xs.map (fun x => some x.1) → hashesK ks = some hs → xs.map (fun x => (nestedKind P w).hash x.1) = hs
  | [], ks, hs, ke, e => by
    cases ks with
    | nil => rw [hashesK] at e; cases e; rfl
    | cons k ks => cases ke
  | x :: xs, ks, hs, ke, e => by
    cases ks with
    | nil => cases ke
    | cons k ks =>
      rw [List.map_cons, List.map_cons, List.cons.injEq] at ke
      rw [hashesK, ke.1] at e
      simp only at e
      split at e
      · rename_i a b h1 h2
        cases e
        rw [List.map_cons, hashes_at w ke.2 h2]
        have z : (nestedKind P w).hash x.1 = a := nh_eq w h1
        rw [z]
      · cases e
noncomputable def dictD : D → Res D
  | .dic ks vs => if apartK ks = true then .ok (.dic ks vs) else .bad
  | _ => .bad
section
variable {X : Cx} {k : Nat}
theorem call_dictN (hr : Room k X.A) : CallR X (.type "dict") (fun xs H Q => ∃ (F : Hp) (p : Addr) (o : Obj) (es : List EN) (ws : List V) (ks vs : List D), xs = [.ref p] ∧ Same F H ∧ H p = some (.ext (isObj' p o)) ∧ (p == sysModules) = false ∧ DicO (gOf X) o es ∧ DR (gOf X) F es ws ks vs ∧ apartK ks = true ∧
    ∀ a o', H a = none → (a == sysModules) = false → DicO (gOf X) o' es → Q (.ref a) (upd H a (.ext (isObj' a o')))) := by
  intro pins s σ H xs us Q I r h
  obtain ⟨F, p, o, es, ws, ks, vs, rfl, sF, hp, hn, dd, dr, ha, q⟩ := h
  obtain ⟨u, rfl, rx⟩ := vals1 r
  cases rx
  have hap : (es.map fun x => (nestedKind X.prog X.w).hash x.1).Nodup := by
    unfold apartK at ha
    split at ha
    · rename_i hs hh
      rw [hashes_at X.w dr.ke hh]
      exact of_decide_eq_true ha
    · cases ha
  have hu := hr.un
  refine dictCopyH (show X.A.units + 1 + 1 + 8 < cLine by omega) hn (dr_of I sF hp dd dr) dd.sz hap fun h' hm hs => ?_
  have nm : (s.heap.objs.size == sysModules) = false := beq_eq_false_iff_ne.mpr (Ne.symm (Nat.ne_of_lt I.big))
  obtain ⟨o', e1, e2⟩ := dicO_of hm dd.sz
  exact ⟨.ref s.heap.objs.size, _, I.laid (t' := s.toks) (fun b u e => (hs.2 b (Nat.ne_of_lt (Heap.lt_size e))).trans (Heap.get?_push_of_some _ e)) (Nat.le_refl _) (ext_ok e1), rfl, q _ o' (I.hok.fresh (Nat.le_refl _)) nm e2⟩
theorem boot_dict' : bootBuiltins "dict" = some (.type "dict") := by decide +kernel
theorem b_dict (hr : Room k X.A) (hm : X.mg "dict" = none) : BlM X "dict" (.O .flat) (one dictD) := BlM.t hm boot_dict' (call_dictN hr) (ne_one (fun d e z => by unfold dictD at z; split at z <;> (try split at z) <;> cases z)) (cal_one fun F H x a d Q s ra e q => by
  unfold dictD at e
  split at e
  · split at e <;> cases e
    rename_i ha
    obtain ⟨p, o, xs, ws, rfl, h1, h2, h3, h4⟩ := RdD.dr s (show RdD (gOf X) F H x _ from ra)
    exact ⟨F, p, o, xs, ws, _, _, rfl, s, h1, h2, h3, h4, ha, fun t o' ht hn dd => q _ _ _ (Grow.own s ht) ⟨[t], Own.dr upd_same (s.free ht) hn dd h4, fun a ha => by rw [List.mem_singleton.mp ha]; exact ht⟩⟩
  · cases e)
end
/-- the keys in their order -/
noncomputable def Itdk (d : Addr) (o : Obj) (xs : List EN) : It := ⟨fun i H => H d = some (.ext (isObj' d o)) ∧ i < xs.length, fun i H x H' => H' = H ∧ ∃ e, xs[i]? = some e ∧ x = .ref e.2.1, fun i H => H d = some (.ext (isObj' d o)) ∧ xs.length ≤ i⟩
noncomputable def Itdi (d : Addr) (o : Obj) (xs : List EN) (ws : List V) : It := ⟨fun i H => H d = some (.ext (isObj' d o)) ∧ i < xs.length, fun i H x H' => ∃ T e w, xs[i]? = some e ∧ ws[i]? = some w ∧ x = .ref T ∧ H T = none ∧ H' = upd H T (.tup [.ref e.2.1, w]), fun i H => H d = some (.ext (isObj' d o)) ∧ xs.length ≤ i⟩
theorem ent_at {K : Type} [DecidableEq K] {P : Program} {w : World} {knd : HeapKind P w K} {es : Array DictEntry} {xs : List (K × Addr × Value)} (he : es.toList = xs.map (entryOfKey knd)) {i : Nat} (hi : i < es.size) : ∃ e, xs[i]? = some e ∧ es[i].key = .ref e.2.1 ∧ es[i].val = e.2.2 := by
  have h1 := entry_at he i
  rw [Array.getElem?_eq_getElem hi] at h1
  cases hx : xs[i]? with
  | none => rw [hx] at h1; cases h1
  | some e =>
    rw [hx] at h1
    have h2 : es[i] = entryOfKey knd e := Option.some.inj h1
    exact ⟨e, rfl, by rw [h2]; rfl, by rw [h2]; rfl⟩
theorem vals_at : ∀ {ws : List V} {us : List Value} {i : Nat} {u : Value}, Vals ws us → us[i]? = some u → ∃ w, ws[i]? = some w ∧ RelV w u
  | _, _, _, _, .nil, e => by simp at e
  | _, _, 0, _, .cons r _, e => by simp at e; subst e; exact ⟨_, rfl, r⟩
  | _, _, i + 1, u, .cons _ t, e => by
    obtain ⟨w, h1, h2⟩ := vals_at (i := i) t (by simpa using e)
    exact ⟨w, by simpa using h1, h2⟩
section
variable {P : Program} {w : World} {K : PySem.W.Frag} {tg : Expr} {d : Addr} {o : Obj} {es : Array DictEntry} {ep : Nat} {xs : List EN} {ws : List V}
theorem ext_raw {X : Cx} {pins : List (Addr × Obj)} {σ : L2.St} {H : Hp} {s : Shared} (I : L2.Inv X pins σ H s) (h : H d = some (.ext (isObj' d o))) (hx : o.ExactDict) (hd : o.data = .dict es ep) : s.heap.DictRaw d es ep := by
  obtain ⟨e, _⟩ := (show ObjOk X.prog X.w H s.heap d (.ext (isObj' d o)) from I.hok d _ h)
  exact ⟨o, e, hx, hd⟩
theorem turn_dk (it : Addr) (hx : o.ExactDict) (hod : o.data = .dict es ep) (he : es.toList = xs.map (entryOfKey (nestedKind P w))) : Turn P w K tg (Itdk d o xs) [it] it (fun i h => h.IsKeyIter it d i es.size ep) where
  mem := by simp
  obj := fun i h st b hb => by
    have e : b = it := by simpa using hb
    subst e
    obtain ⟨oi, e, c, dd⟩ := st
    exact ⟨oi, e, fun v z => by rw [dd] at z; cases z⟩
  keep := fun i h h' st k => st.at fun oi e => k it (by simp) oi e
  item := by
    intro X hP hw hK hc i pins s σ H E I hf st ⟨hd, hi⟩
    subst hP hw hK
    obtain ⟨f0, f1, f2, f3, f4, f5⟩ := hf it (by simp)
    have hsz := size_of_entries he
    have hi' : i < es.size := by rw [hsz]; exact hi
    obtain ⟨e, e1, e2, _⟩ := ent_at he hi'
    refine wpAny_pyNext_keys_item_raw st (ext_raw I hd hx hod) hi' fun h' st' sb => ?_
    have I1 : Inv X pins σ H { s with heap := h' } := I.turned (t' := s.toks) (fun b ob hb q => (sb.2 b hb).trans q) f0 f1 f3 f4 f5
    obtain ⟨oi, q, c, dd⟩ := id st'
    exact ⟨es[i].key, rfl, go_of (s := { s with heap := h' }) q c dd (by decide) ⟨.ref e.2.1, H, I1, e2, ⟨rfl, e, e1, rfl⟩, st', fun b hb => (hf b hb).1⟩⟩
  done := by
    intro X hP hw hK hc i pins s σ H E I hf st ⟨hd, hi⟩
    subst hP hw hK
    obtain ⟨f0, f1, f2, f3, f4, f5⟩ := hf it (by simp)
    have hsz := size_of_entries he
    exact wpAny_pyNext_keys_end_raw (I.ok.hd hc) st (ext_raw I hd hx hod) (by rw [hsz]; exact hi) fun h' eb => ⟨rfl, I.turned (t' := s.toks) (fun b ob hb e => eb b ob hb e) f0 f1 f3 f4 f5⟩
  self := fun A i s Q E st h => wpAny_pyIter_keyiter st h
theorem turn_di {elts : List Expr} {kk : Nat} {tpos : Pos} (it : Addr) (hx : o.ExactDict) (hod : o.data = .dict es ep) (he : es.toList = xs.map (entryOfKey (nestedKind P w))) (hv : Vals ws (xs.map (·.2.2))) :
    Turn P w K (.Tuple elts kk tpos) (Itdi d o xs ws) [it] it (fun i h => ∃ ok ov, IsItemIter h it d i es.size ep ok ov) where
  mem := by simp
  obj := fun i h st b hb => by
    have e : b = it := by simpa using hb
    subst e
    obtain ⟨ok, ov, e⟩ := st
    exact ⟨_, e, fun v z => nomatch z⟩
  keep := fun i h h' ⟨ok, ov, e⟩ k => ⟨ok, ov, k it (by simp) _ e⟩
  item := by
    intro X hP hw hK hc i pins s σ H E I hf ⟨ok, ov, st⟩ ⟨hd, hi⟩
    subst hP hw hK
    have hsz := size_of_entries he
    have hi' : i < es.size := by rw [hsz]; exact hi
    obtain ⟨e, e1, e2, e3⟩ := ent_at he hi'
    obtain ⟨u, u1, u2⟩ := vals_at hv (i := i) (u := e.2.2) (by rw [List.getElem?_map, e1]; rfl)
    have hlt : it < s.heap.objs.size := Heap.lt_size st
    refine wpAny_pyNext_items_item_raw st (ext_raw I hd hx hod) hi' fun h' ho hT hz hk => ?_
    refine ⟨_, rfl, wpAny_letOwnedTupleGo_items (s := { s with heap := h' }) ho fun h2 he' sb => ?_⟩
    have hT2 : h2.get? s.heap.objs.size = some { cls := .type "tuple", data := .seq #[es[i].key, es[i].val] } := (sb.2 _ (Nat.ne_of_gt hlt)).trans hT
    have new : ObjOk X.prog X.w (upd H s.heap.objs.size (.tup [.ref e.2.1, u])) h2 s.heap.objs.size (.tup [.ref e.2.1, u]) :=
      ⟨by show 2 ≤ sizeLine; decide, [es[i].key, es[i].val], .cons e2 (.cons (by rw [e3]; exact u2) .nil), ⟨_, hT2, rfl, _, rfl⟩⟩
    have I1 : Inv X pins σ (upd H s.heap.objs.size (.tup [.ref e.2.1, u])) { s with heap := h2 } :=
      I.turnedNew (t' := s.toks) (ch := [it]) (fun b ob hb q => (sb.2 b (by simpa using hb)).trans (hk b ob (by simpa using hb) q)) hf (Nat.le_refl _) new
    refine ⟨.ref s.heap.objs.size, _, I1, rfl, ⟨_, e, u, e1, u1, rfl, I.hok.fresh (Nat.le_refl _), rfl⟩, ⟨_, _, he'⟩, fun b hb => ?_⟩
    have eb : b = it := by simpa using hb
    rw [eb, upd_ne (Nat.ne_of_lt hlt)]
    exact (hf it (by simp)).1
  done := by
    intro X hP hw hK hc i pins s σ H E I hf ⟨ok, ov, st⟩ ⟨hd, hi⟩
    subst hP hw hK
    obtain ⟨f0, f1, f2, f3, f4, f5⟩ := hf it (by simp)
    have hsz := size_of_entries he
    exact wpAny_pyNext_items_end_raw (I.ok.hd hc) st (ext_raw I hd hx hod) (by rw [hsz]; exact hi) fun h' eb => ⟨rfl, I.turned (t' := s.toks) (fun b ob hb e => eb b ob hb e) f0 f1 f3 f4 f5⟩
  self := fun A i s Q E ⟨_, _, e⟩ h => wpAny_pyIter_itemiter e h
end
/-- the dict is there -/
noncomputable def iDk (X : Cx) (J : Addr → Obj → List EN → List V → It) (td : TE) : TI := fun σ H R => td σ H fun x H1 => ∃ (F : Hp) (d : Addr) (o : Obj) (xs : List EN) (ws : List V) (ks vs : List D), x = .ref d ∧ Same F H1 ∧ H1 d = some (.ext (isObj' d o)) ∧ (d == sysModules) = false ∧ DicO (gOf X) o xs ∧ DR (gOf X) F xs ws ks vs ∧ R (J d o xs ws) H1
section
variable {X : Cx} {W : Wi} {tg e : Expr} {td : TE} {fe : Env → Res D} {apos cpos : Pos}
theorem pi_dk (he : PE X e td) : PI X tg e (iDk X (fun d o xs _ => Itdk d o xs) td) := by
  refine ⟨fun pins s σ H R I h => thn (he.run pins s σ H _ I h) fun u s1 ⟨x, H1, I1, rx, F', d, o, xs, ws, ks, vs, ex, sF, hd, hn, dd, dr, q⟩ => ?_⟩
  subst ex
  obtain rfl : u = Value.ref d := rx
  obtain ⟨es, ep, h1, h2⟩ := dd.dat
  refine wpAny_pyIter_dict_raw hn (ext_raw I1 hd dd.ex h1) (pi_one (tk := s1.toks) I1 _ (turn_dk _ dd.ex h1 h2) ⟨_, Heap.get?_push_size _ rfl, rfl, rfl⟩ q)
theorem pi_di {elts : List Expr} {kk : Nat} {tpos : Pos} (he : PE X e td) (hbase : attributeBase e "items" X.env (eval e X.env) = eval e X.env := by rfl) (hline : (apos.endLine == cpos.line) = true := by rfl) :
    PI X (.Tuple elts kk tpos) (.Call (.Attribute e "items" apos) [] [] cpos) (iDk X Itdi td) := by
  refine ⟨fun pins s σ H R I h => ?_⟩
  refine wpAny_Call_method (T := "dict") (id := "dict.items") hbase rfl hline F.plainAttrs_dict F.slot_dict_items F.type_dict_items (thn (he.run pins s σ H _ I h) fun u s1 ⟨x, H1, I1, rx, F', d, o, xs, ws, ks, vs, ex, sF, hd, hn, dd, dr, q⟩ => ?_)
  subst ex
  obtain rfl : u = Value.ref d := rx
  obtain ⟨es, ep, h1, h2⟩ := dd.dat
  have hr := ext_raw I1 hd dd.ex h1
  have ho : s1.heap.get? d = some o := (I1.hok d _ hd).1
  refine ⟨hr.typeIs, fun a ea => by cases ea; exact ⟨o, ho, dd.ex.2.1⟩, ?_⟩
  have I2 : Inv X pins σ H1 { s1 with heap := s1.heap.push { cls := .type "dict_items", data := .fields #[.ref d] } } := I1.kept (t' := s1.toks) fun b ob q => Heap.get?_push_of_some _ q
  have fin : wpAny (model X.prog X.w) X.A (pyIter (.ref s1.heap.objs.size)) (PIE X pins σ (.Tuple elts kk tpos) R) X.xe { s1 with heap := s1.heap.push { cls := .type "dict_items", data := .fields #[.ref d] } } :=
    wpAny_pyIter_items_raw ⟨_, Heap.get?_push_size _ rfl, rfl, rfl⟩ (hr.at fun ob q => Heap.get?_push_of_some _ q) (pi_one (tk := s1.toks) I2 _ (turn_di _ dd.ex h1 h2 dr.wv) ⟨.none, .none, Heap.get?_push_size _ rfl⟩ q)
  show wpAny _ _ (callWith cpos (.builtin "dict.items") [.ref d] [] []) _ X.xe s1
  exact method_meetsIn F.slot_dict_items F.entry_dict_items rfl (PySem.evalArgs_none ⟨rfl, hr.typeIs, F.args_dict_items_1 _, _, meets_dict_items_raw d hn, ⟨es, ep, hr⟩, fin⟩)
theorem WalkD.dk {G : GC} {F F1 B : Hp} {d : Addr} {o : Obj} {xs : List EN} {ws : List V} {ks vs : List D} (h : B d = some (.ext (isObj' d o))) (dr : DR G F xs ws ks vs) : WalkD G F B (Itdk d o xs) ks := ⟨fun i H hi s => ⟨s _ _ h, by rw [dr.len]; exact hi⟩, fun H s => ⟨s _ _ h, by rw [dr.len]; exact Nat.le_refl _⟩, fun i F2 H2 x H3 hi s1 s2 s3 y => by
  obtain ⟨rfl, e, he, rfl⟩ := y
  obtain ⟨kd, h1, h2⟩ := dr.kr.getV (i := i) (v := .ref e.2.1) (by rw [List.getElem?_map, he]; rfl)
  exact ⟨F2, kd, Grow.refl s2, h1, h2.mono s1⟩⟩
/-- the pairs of a table -/
noncomputable def pairsK (ks vs : List D) : List D := (ks.zip vs).map fun p => .tup [p.1, p.2]
theorem WalkD.di {G : GC} {F B : Hp} {d : Addr} {o : Obj} {xs : List EN} {ws : List V} {ks vs : List D} (h : B d = some (.ext (isObj' d o))) (dr : DR G F xs ws ks vs) : WalkD G F B (Itdi d o xs ws) (pairsK ks vs) := by
  have l1 := dr.len
  have l2 := dr.vr.length
  have l3 := dr.wv.length
  rw [List.length_map] at l3
  have hl : (pairsK ks vs).length = ks.length := by simp [pairsK]; omega
  refine ⟨fun i H hi s => ⟨s _ _ h, by omega⟩, fun H s => ⟨s _ _ h, by omega⟩, fun i F2 H2 x H3 hi s1 s2 s3 y => ?_⟩
  obtain ⟨T, e, w, he, hw, rfl, hT, rfl⟩ := y
  obtain ⟨kd, h1, h2⟩ := dr.kr.getV (i := i) (v := .ref e.2.1) (by rw [List.getElem?_map, he]; rfl)
  obtain ⟨vd, h3, h4⟩ := dr.vr.getV hw
  refine ⟨_, .tup [kd, vd], Grow.mk1 s2 hT, ?_, Rep.tup (.of upd_same) (.cons ((h2.mono s1).mono (Grow.mk1 s2 hT).f) (.cons ((h4.mono s1).mono (Grow.mk1 s2 hT).f) .nil))⟩
  unfold pairsK
  rw [List.getElem?_map, List.getElem?_zip_eq_some (z := (kd, vd)) |>.mpr ⟨h1, h3⟩]
  rfl
noncomputable def itemsD (d : D) : Res (List D) := match d with
  | .dic ks _ => .ok ks
  | d => itemsS d
@[simp] theorem itemsD_lst (xs : List D) : itemsD (.lst xs) = .ok xs := rfl
@[simp] theorem itemsD_tup (xs : List D) : itemsD (.tup xs) = .ok xs := rfl
@[simp] theorem itemsD_scr (xs : List Int) : itemsD (.scr xs) = .ok (xs.map D.int) := rfl
@[simp] theorem itemsD_str (z : Str) : itemsD (.str z) = .ok (signsOf z) := rfl
@[simp] theorem itemsD_dic (ks vs : List D) : itemsD (.dic ks vs) = .ok ks := rfl
theorem re_iter (he : RE X W .S e fe) : RI X W true tg e (fun r => fe r >>= itemsD) := by
  refine ⟨fun pins s σ H R I ⟨H0, F0, fp, F, r, m, o⟩ => ?_⟩
  have o : Out (gOf X) W σ F H _ (fe r >>= itemsD) := o
  cases ef : fe r with
  | er x => exact (re_iterS he).run pins s σ H R I ⟨H0, F0, fp, F, r, m, by show Out _ _ _ _ _ _ (fe r >>= itemsS); rw [ef] at o ⊢; exact o⟩
  | bad => rw [ef] at o; exact o.elim
  | ok d =>
    rw [ef] at o
    have o0 : itemsD d = itemsS d → Out (gOf X) W σ F H _ (fe r >>= itemsS) := fun z => by
      rw [ef]
      have o1 : Out (gOf X) W σ F H _ (itemsD d) := o
      rw [z] at o1
      exact o1
    cases d with
    | dic ks vs => exact (pi_dk he).run pins s σ H R I ⟨H0, F0, fp, F, r, m, by
        rw [ef]
        intro F' H' gr v kv
        have kv' : Rep (gOf X) F' v (.dic ks vs) := kv
        cases kv' with
        | dic h1 z1 z2 z3 z4 z5 z6 => exact ⟨F', _, _, _, _, ks, vs, rfl, gr.sub, gr.sub _ _ h1, z1, z2, ⟨z3, z4, z5, z6⟩, o F' H' gr _ (WalkD.dk (F1 := F') h1 ⟨z3, z4, z5, z6⟩)⟩⟩
    | _ => exact (re_iterS he).run pins s σ H R I ⟨H0, F0, fp, F, r, m, o0 rfl⟩
noncomputable def valsD (d : D) : Res (List D) := match d with
  | .dic _ vs => .ok vs
  | _ => .bad
noncomputable def pairsD (d : D) : Res (List D) := match d with
  | .dic ks vs => .ok (pairsK ks vs)
  | _ => .bad
@[simp] theorem valsD_dic (ks vs : List D) : valsD (.dic ks vs) = .ok vs := rfl
@[simp] theorem pairsD_dic (ks vs : List D) : pairsD (.dic ks vs) = .ok (pairsK ks vs) := rfl
theorem ri_dk {J : Addr → Obj → List EN → List V → It} {g : D → Res (List D)} {iter : Expr} (hg : ∀ d x, g d ≠ .er x) (hj : ∀ (F B : Hp) (d : Addr) (o : Obj) (xs : List EN) (ws : List V) (ks vs : List D) (l : List D), g (.dic ks vs) = .ok l → B d = some (.ext (isObj' d o)) → DR (gOf X) F xs ws ks vs → WalkD (gOf X) F B (J d o xs ws) l)
    (hb : ∀ d, (∀ ks vs, d ≠ .dic ks vs) → g d = .bad) (h : PI X tg iter (iDk X J (tE (gOf X) W .S fe))) : RI X W true tg iter (fun r => fe r >>= g) := by
  refine ⟨fun pins s σ H R I ⟨H0, F0, fp, F, r, m, o⟩ => h.run pins s σ H R I ⟨H0, F0, fp, F, r, m, o.bind fun F' H' d gr o2 v kv => ?_⟩⟩
  cases e : g d with
  | er x => exact (hg _ _ e).elim
  | bad => rw [e] at o2; exact o2.elim
  | ok l =>
    rw [e] at o2
    have kv' : Rep (gOf X) F' v d := kv
    cases kv' with
    | dic h1 z1 z2 z3 z4 z5 z6 => exact ⟨F', _, _, _, _, _, _, rfl, gr.sub, gr.sub _ _ h1, z1, z2, ⟨z3, z4, z5, z6⟩, o2 F' H' (Grow.refl gr.sub) _ (hj F' F' _ _ _ _ _ _ l e h1 ⟨z3, z4, z5, z6⟩)⟩
    | _ => exact absurd ((hb _ (by intro _ _ z; cases z)).symm.trans e) (by simp)
theorem ri_items {elts : List Expr} {kk : Nat} {tpos : Pos} (he : RE X W .S e fe) (hbase : attributeBase e "items" X.env (eval e X.env) = eval e X.env := by rfl) (hline : (apos.endLine == cpos.line) = true := by rfl) : RI X W true (.Tuple elts kk tpos) (.Call (.Attribute e "items" apos) [] [] cpos) (fun r => fe r >>= pairsD) :=
  ri_dk (J := Itdi) (fun d x z => by unfold pairsD at z; split at z <;> cases z) (fun F B d o xs ws ks vs l e h dr => by cases e; exact WalkD.di h dr) (fun d h => by unfold pairsD; split; exact (h _ _ rfl).elim; rfl) (pi_di he hbase hline)
end
end Mir
namespace Mir
open PySem PySem.Spec PyProof.Rows L2
variable [Tn]
noncomputable def clrG (i : Nat) (r : Env) : Oc := match ownF i r with
  | some (.lst _) => .nx (r.set i (.ow .flat (.lst [])))
  | some (.dic _ _) => .nx (r.set i (.ow .flat (.dic [] [])))
  | _ => .bad
noncomputable def popG (i : Nat) (fk : Env → Res D) (r : Env) : Oc := match ownF i r with
  | some (.dic ks vs) => lift (fk r) r fun k => match keyT k with
    | some q => if hasK ks q = true then .nx (r.set i (.ow .flat (.dic (delK ks vs q).1 (delK ks vs q).2))) else .bad
    | none => .bad
  | _ => .bad
section
variable {X : Cx} {W : Wi} {k : Kd} {m : Nat} {e : Expr} {fe : Env → Res D} {pos apos cpos ps : Pos} {x : Str}
/-- a dict and what is done to it -/
noncomputable def rDU (X : Cx) (P : List EN → List V → List D → List D → Hp → Addr → Hp → Prop) : V → Hp → Prop := fun x H => ∃ (F : Hp) (p : Addr) (o : Obj) (xs : List EN) (ws : List V) (ks vs : List D), x = .ref p ∧ Same F H ∧ H p = some (.ext (isObj' p o)) ∧ (p == sysModules) = false ∧ DicO (gOf X) o xs ∧ DR (gOf X) F xs ws ks vs ∧ P xs ws ks vs F p H
theorem pe_dclear (i : Nat) (hN : X.N[i]? = some x) (hv : Vis X.env.scope x) (hd : (x == ("__debug__" : Str)) = false) (hcd : (x == ("__classdict__" : Str)) = false) (hbase : attributeBase (.Name x ps) "clear" X.env (eval (.Name x ps) X.env) = eval (.Name x ps) X.env) (hline : (apos.endLine == cpos.line) = true) :
    PE X (.Call (.Attribute (.Name x ps) "clear" apos) [] [] cpos) (fun σ H Q => ∃ v, σ[i]? = some (some v) ∧ rDU X (fun xs ws ks vs F p H => ∀ o', DicO (gOf X) o' [] → Q .non (upd H p (.ext (isObj' p o')))) v H) := by
  refine ⟨fun pins s σ H Q I h => ?_⟩
  obtain ⟨v, hv', h⟩ := h
  refine wpAny_Call_method0_late hbase hline (thn ((pe_var hN hv hd hcd).run pins s σ H (fun y H1 => y = v ∧ H1 = H) I ⟨v, hv', rfl, rfl⟩) fun u s1 ⟨y, H1, I1, r1, ey, eH⟩ => ?_)
  subst ey eH
  obtain ⟨F', p, o, xs, ws, ks, vs, rfl, sF, hp, hn, dd, dr, q⟩ := h
  cases r1
  have dm := dr_of I1 sF hp dd dr
  obtain ⟨es, ep, h1, h2⟩ := dd.dat
  have hr := ext_raw I1 hp dd.ex h1
  refine ⟨"dict", "dict.clear", F.plainAttrs_dict, F.slot_dict_clear, F.type_dict_clear, hr.typeIs, fun a ea => by cases ea; exact ⟨o, (I1.hok p _ hp).1, dd.ex.2.1⟩, Calls.callWith_builtin rfl (PySem.evalArgs_none ?_)⟩
  refine clear_keyed (knd := nestedKind X.prog X.w) ⟨xs, dm, rfl⟩ (fun h' hm hs => ?_) (by rw [pairsH_length]; exact dd.sz)
  obtain ⟨ys, hy, ey⟩ := hm
  have eys : ys = [] := by
    cases ys with
    | nil => rfl
    | cons a b => cases ey
  subst eys
  obtain ⟨o', e1, e2⟩ := dicO_of hy (Nat.zero_le _)
  exact ⟨.non, _, d_write (t' := s1.toks) I1 (by rw [hp]; exact True.intro) hs ⟨o', e1⟩ (ext_ok e1), rfl, q o' e2⟩
theorem rs_clear (i : Nat) (hN : X.N[i]? = some x := by rfl) (hv : Vis X.env.scope x := by first | exact Or.inl rfl | exact Or.inr (Or.inl rfl) | exact Or.inr (Or.inr rfl)) (hd : (x == ("__debug__" : Str)) = false := by decide)
    (hcd : (x == ("__classdict__" : Str)) = false := by decide) (hs : swapsWith (.Call (.Attribute (.Name x ps) "clear" apos) [] [] cpos) none pos.line X.env = pure false := by rfl)
    (hbase : attributeBase (.Name x ps) "clear" X.env (eval (.Name x ps) X.env) = eval (.Name x ps) X.env := by rfl) (hline : (apos.endLine == cpos.line) = true := by rfl) :
    RS X W k (.Expr (.Call (.Attribute (.Name x ps) "clear" apos) [] [] cpos) pos) (clrG i) := by
  refine ⟨fun pins s σ H D I h => ?_⟩
  obtain ⟨H0, F0, fp, F, r, m, o⟩ := h
  cases ho : ownF i r with
  | none =>
    have o' : OutS (gOf X) W k H0 F0 F D (clrG i r) := o
    unfold clrG at o'
    rw [ho] at o'
    exact o'.elim
  | some d =>
    have hi := ownF_some ho
    cases d with
    | lst ds => exact (rs_clearL (W := W) (k := k) i hN hv hd hcd hs hbase hline).run pins s σ H D I ⟨H0, F0, fp, F, r, m, by
        have o' : OutS (gOf X) W k H0 F0 F D (clrG i r) := o
        unfold clrG at o'
        rw [ho] at o'
        unfold clrLG ownL
        rw [hi]
        exact o'⟩
    | dic ks vs =>
      have o' : OutS (gOf X) W k H0 F0 F D (clrG i r) := o
      unfold clrG at o'
      rw [ho] at o'
      obtain ⟨a, ob, xs, ws, h1, h2, h3, h4, h5, h6⟩ := m.dic hi
      exact (ps_expr (pe_dclear i hN hv hd hcd hbase hline) hs).run pins s σ H D I ⟨.ref a, h1, F, a, ob, xs, ws, ks, vs, rfl, m.sub, h2, h3, h4, h5, fun o2 dd => by
        obtain ⟨fp', m'⟩ := m.dicUpd hi h1 h6 h3 dd (DR.nil (F := F))
        exact o' fp' F σ _ (Same.refl _) m'⟩
    | _ =>
      have o' : OutS (gOf X) W k H0 F0 F D (clrG i r) := o
      unfold clrG at o'
      rw [ho] at o'
      exact o'.elim
theorem pe_dpop (i : Nat) (hr : Room m X.A) (he : RE X W .R e fe) (hN : X.N[i]? = some x) (hv : Vis X.env.scope x) (hd : (x == ("__debug__" : Str)) = false) (hcd : (x == ("__classdict__" : Str)) = false) (hbase : attributeBase (.Name x ps) "pop" X.env (eval (.Name x ps) X.env) = eval (.Name x ps) X.env) (hline : (apos.endLine == cpos.line) = true)
    (hst : backTo cpos (starEach [e] X.env) = [(false, eval e X.env)]) :
    PE X (.Call (.Attribute (.Name x ps) "pop" apos) [e] [] cpos) (fun σ H Q => ∃ p, σ[i]? = some (some (.ref p)) ∧ (∃ o, H p = some (.ext (isObj' p o)) ∧ o.ExactDict) ∧ tE (gOf X) W .R fe σ H fun y H1 => ∃ (F : Hp) (b : Addr) (o : Obj) (xs : List EN) (ws : List V) (ks vs : List D) (kd : D) (q : NestedKey), y = .ref b ∧ Same F H1 ∧ H1 p = some (.ext (isObj' p o)) ∧ (p == sysModules) = false ∧ DicO (gOf X) o xs ∧ DR (gOf X) F xs ws ks vs ∧
      Rep (gOf X) F (.ref b) kd ∧ keyT kd = some q ∧ hasK ks q = true ∧ ∀ o' w, DicO (gOf X) o' (withoutH xs q) → Q w (upd H1 p (.ext (isObj' p o')))) := by
  refine ⟨fun pins s σ H Q I h => ?_⟩
  obtain ⟨p, hv', ⟨o, hp, hx⟩, h⟩ := h
  refine wpAny_Call_method1_late hbase hline hst (thn ((pe_var hN hv hd hcd).run pins s σ H (fun y H1 => y = .ref p ∧ H1 = H) I ⟨_, hv', rfl, rfl⟩) fun u s1 ⟨y, H1, I1, r1, ey, eH⟩ => ?_)
  subst ey eH
  cases r1
  have ho : s1.heap.get? p = some o := (I1.hok p _ hp).1
  refine ⟨"dict", "dict.pop", F.plainAttrs_dict, F.slot_dict_pop, F.type_dict_pop, ⟨o, ho, hx.1⟩, fun a ea => by cases ea; exact ⟨o, ho, hx.2.1⟩, Calls.callWith_builtin rfl (Calls.evalArgs_plain (Calls.spliced_cons (thn (he.run pins s1 σ H1 _ I1 h) fun uk s2 ⟨y, H2, I2, r2, q⟩ => Calls.spliced_nil ?_)))⟩
  obtain ⟨F', b, o, xs, ws, ks, vs, kd, q, rfl, sF, hp2, hn, dd, dr, rk, hk, hh, qq⟩ := q
  cases r2
  have dm := dr_of I2 sF hp2 dd dr
  rw [hasK_at dr.ke] at hh
  obtain ⟨en, hen⟩ := Option.isSome_iff_exists.mp hh
  refine call_pop_heap (hsz := dd.sz) (.inl rfl) (F.args_dict_pop_2 _ _) (room8 hr) (key_is I2 sF rk hk) hn dm hen fun h' hm hs => ?_
  have hz : (withoutH xs q).length ≤ sizeLine := Nat.le_trans (by unfold withoutH; exact List.length_filter_le _ _) dd.sz
  obtain ⟨o', e1, e2⟩ := dicO_of hm hz
  obtain ⟨w, hw⟩ : ∃ w : V, RelV w en.2 := by
    rcases getK_at (q := q) dr.wv dr.ke dr.vr with ⟨_, z⟩ | ⟨d', e', v, z1, z2, z3, z4⟩
    · rw [hen] at z; cases z
    · rw [hen] at z2
      cases z2
      exact ⟨v, z3⟩
  exact ⟨w, _, d_write I2 (by rw [hp2]; exact True.intro) hs ⟨o', e1⟩ (ext_ok e1), hw, qq o' w e2⟩
theorem rs_pop (i : Nat) (hr : Room m X.A) (he : RE X W .R e fe) (hN : X.N[i]? = some x := by rfl) (hv : Vis X.env.scope x := by first | exact Or.inl rfl | exact Or.inr (Or.inl rfl) | exact Or.inr (Or.inr rfl)) (hd : (x == ("__debug__" : Str)) = false := by decide)
    (hcd : (x == ("__classdict__" : Str)) = false := by decide) (hs : swapsWith (.Call (.Attribute (.Name x ps) "pop" apos) [e] [] cpos) none pos.line X.env = pure false := by rfl)
    (hbase : attributeBase (.Name x ps) "pop" X.env (eval (.Name x ps) X.env) = eval (.Name x ps) X.env := by rfl) (hline : (apos.endLine == cpos.line) = true := by rfl) (hst : backTo cpos (starEach [e] X.env) = [(false, eval e X.env)] := by rfl) :
    RS X W k (.Expr (.Call (.Attribute (.Name x ps) "pop" apos) [e] [] cpos) pos) (popG i fe) :=
  (ps_expr (pe_dpop i hr he hN hv hd hcd hbase hline hst) hs).imp fun D σ H ⟨H0, F0, fp, F, r, m, o⟩ => by
    unfold popG at o
    split at o
    · rename_i ks vs ho
      have hi := ownF_some ho
      obtain ⟨a, ob, xs, ws, h1, h2, h3, h4, h5, h6⟩ := m.dic hi
      refine ⟨a, h1, ⟨ob, h2, h4.ex⟩, H0, F0, fp, F, r, m, o.lift m fun F' H' d gr o' u ku => ?_⟩
      split at o'
      · rename_i q hq
        split at o'
        · rename_i hh
          obtain ⟨b, rfl, rb⟩ := key_ref (show RdD (gOf X) F' H' u _ from ku) hq
          have h5' := h5.mono gr.f
          refine ⟨F', b, ob, xs, ws, ks, vs, d, q, rfl, gr.sub, gr.h.at _ _ h2, h3, h4, h5', rb, hq, hh, fun o2 w dd => ?_⟩
          obtain ⟨ws', dr'⟩ := h5'.del (q := q)
          obtain ⟨fp', m'⟩ := (m.grow gr).dicUpd hi h1 h6 h3 dd dr'
          exact o' fp' F' σ _ (Same.refl _) m'
        · exact o'.elim
      · exact o'.elim
    · exact o.elim
end
section
variable {G : GC} {F H : Hp}
theorem OwnAll.setAt {f : Nat → Shape} {d' : D} : ∀ {n0 : Nat} {ws : List V} {vs : List D} {A : List Addr}, OwnAll G F H f n0 ws vs A → ∀ (n : Nat) {d : D}, vs[n]? = some d → ∃ w B, ws[n]? = some w ∧ Own G F H (f (n0 + n)) w d B ∧ (∀ b ∈ B, b ∈ A) ∧
      ∀ a o, a ∈ B → Own G F (upd H a o) (f (n0 + n)) w d' B → OwnAll G F (upd H a o) f n0 ws (vs.set n d') A
  | _, _, _, _, .nil, n, d, h => by simp at h
  | n0, _, _, _, .cons (A := A) (B := B) r t x, 0, d, h => by
    simp at h
    subst h
    exact ⟨_, A, rfl, r, fun b hb => List.mem_append_left _ hb, fun a o ha r' => .cons r' (t.keep (Keep.upd (x a ha))) x⟩
  | n0, _, _, _, .cons (A := A) (B := B) r t x, n + 1, d, h => by
    obtain ⟨w, C, h1, h2, h3, h4⟩ := OwnAll.setAt t n (d := d) (by simpa using h)
    rw [show n0 + 1 + n = n0 + (n + 1) by omega] at h2 h4
    refine ⟨w, C, by simpa using h1, h2, fun b hb => List.mem_append_right _ (h3 b hb), fun a o ha r' => ?_⟩
    rw [List.set_cons_succ]
    exact .cons (r.keep (Keep.upd fun z => x a z (h3 a ha))) (h4 a o ha r') x
end
noncomputable def Shape.isFlat : Shape → Bool
  | .flat => true
  | _ => false
theorem Shape.flat_of {s : Shape} (h : s.isFlat = true) : s = .flat := by cases s <;> first | rfl | cases h
noncomputable def setFI (i c n : Nat) (fv fi : Env → Res D) (r : Env) : Oc := lift (fv r) r fun v => match r[i]? with
  | some (.ow s (.obj c' vs)) => if c' = c ∧ (s.kid n).isFlat = true then (match vs[n]? with
    | some (.dic ks us) => lift (fi r) r fun kx => match keyT kx with
      | some q => if ks.length < lim then .nx (r.set i (.ow s (.obj c (vs.set n (.dic (setK ks us kx q v).1 (setK ks us kx q v).2))))) else .bad
      | none => .bad
    | _ => .bad) else .bad
  | _ => .bad
section
variable {X : Cx} {W : Wi} {k : Nat} {kk : Kd} {e iv : Expr} {fe fi : Env → Res D} {pos ps p2 p3 : Pos} {x f : Str}
theorem rs_fldItem (i c n : Nat) (M : ClM X.K (gOf X).ca f c) (hr : Room k X.A) (he : RE X W .S e fe) (hi : RE X W .R iv fi) (hn : (cflds c)[n]? = some f := by rfl) (hN : X.N[i]? = some x := by rfl) (hv : Vis X.env.scope x := by first | exact Or.inl rfl | exact Or.inr (Or.inl rfl) | exact Or.inr (Or.inr rfl)) (hd : (x == ("__debug__" : Str)) = false := by decide)
    (hcd : (x == ("__classdict__" : Str)) = false := by decide) (hb : attributeBase (.Name x ps) f X.env (eval (.Name x ps) X.env) = eval (.Name x ps) X.env := by rfl) (ha : ∀ v, assign (.Subscript (.Attribute (.Name x ps) f p3) iv p2) X.env v = (do
      let ov ← holding [v] (eval (.Attribute (.Name x ps) f p3) X.env)
      let iv ← holding [v, ov] (eval iv X.env)
      standAt p2
      holding [v, ov, iv] (setItem ov iv v)
      release [v, ov, iv] []) := by intro _; rfl)
    (hs : swapsWithSole [.Subscript (.Attribute (.Name x ps) f p3) iv p2] e pos.line X.env = pure false := by rfl) (hw : swappedStores [.Subscript (.Attribute (.Name x ps) f p3) iv p2] e X.env = pure none := by rfl) (h1 : (assignEach [.Subscript (.Attribute (.Name x ps) f p3) iv p2] X.env).map (·.2) = [assign (.Subscript (.Attribute (.Name x ps) f p3) iv p2) X.env] := by rfl) :
    RS X W kk (.Assign [.Subscript (.Attribute (.Name x ps) f p3) iv p2] e pos) (setFI i c n fe fi) :=
  (ps_asg he (pg_sub (pe_fld (pe_var hN hv hd hcd) hb) hi (set_dic hr) ha) hs hw h1).imp fun D σ H ⟨H0, F0, fp, F, r, m, o⟩ => ⟨H0, F0, fp, F, r, m, OutS.lift m o fun F' H' d gr o' v kv => by
    split at o'
    · rename_i s c' vs hi
      split at o'
      · rename_i hc
        obtain ⟨rfl, hfl⟩ := hc
        have hfl := Shape.flat_of hfl
        split at o'
        · rename_i ks us hvs
          have m' := m.grow gr
          obtain ⟨⟨w, hw, ow⟩, hA⟩ := m'.ow i _ _ hi
          have hfp : fp i = fp i := rfl
          generalize hAA : fp i = A at ow hA
          cases ow with
          | sh _ => cases hfl
          | @obj _ a dx _ ws _ A' so ha fa hz oa na =>
            obtain ⟨w2, B, b1, b2, b3, b4⟩ := oa.setAt (d' := .dic [] []) n hvs
            rw [Nat.zero_add, hfl] at b2
            cases b2 with
            | @dic _ p ob xs wz _ _ _ h0 e2 f2 z1 z2 z3 z4 z5 ra nb =>
              obtain ⟨rfl, rr⟩ := ra.to_rep
              refine ⟨.ref a, hw, a, (gOf X).ca c', dx, _, .ref p, rfl, ha, M.cl, M.no, lookup_zip M.nd hn b1, H0, F0, fp, F', r, m', OutS.lift m' o' fun F2 H2 n2 g2 o2 u ku => ?_⟩
              split at o2
              · rename_i q hq
                split at o2
                · rename_i hl
                  obtain ⟨b, rfl, rb⟩ := key_ref (show RdD (gOf X) F2 H2 u _ from ku) hq
                  have dr : DR (gOf X) F2 xs wz ks us := (DR.mk z3 z4 z5 rr).mono g2.f
                  refine ⟨F2, p, b, ob, xs, wz, ks, us, n2, q, rfl, rfl, g2.sub, g2.h.at _ _ e2, z1, z2, dr, rb, hq, by rw [dr.len]; exact Nat.le_of_lt hl, fun p' b' ob' uu ep eb ru dd' => ?_⟩
                  cases ep
                  cases eb
                  obtain ⟨wz', dr'⟩ := dr.set ru rb (keyT_some hq).2.1 (Mir.Rep.mono g2.f kv)
                  have m2 := m'.grow g2
                  obtain ⟨⟨w', hw', ow'⟩, _⟩ := m2.ow i _ _ hi
                  rw [hw] at hw'
                  cases hw'
                  rw [hAA] at ow'
                  have oa2 : OwnAll (gOf X) F2 H2 s.kid 0 ws vs A' := oa.keep (g2.keep (fun y hy => (oa.there y hy).2) oa.nt)
                  obtain ⟨w3, B3, c1, c2, c3, c4⟩ := oa2.setAt (d' := .dic (setK ks us n2 q d).1 (setK ks us n2 q d).2) n hvs
                  rw [b1] at c1
                  cases c1
                  rw [Nat.zero_add, hfl] at c2 c4
                  have fp0 : F2 p = none := by
                    cases c2 with
                    | dic _ _ y _ _ _ _ _ _ _ => exact y
                  have eB : B3 = [p] := by
                    cases c2 with
                    | dic _ _ _ _ _ _ _ _ rb2 _ => obtain ⟨rfl, _⟩ := rb2.to_rep; rfl
                  subst eB
                  have oo := c4 p (.ext (isObj' p ob')) (by simp) (Own.dr upd_same fp0 z1 dd' dr')
                  have pA : p ∈ A' := c3 p (by simp)
                  have hap : a ≠ p := fun z => na (z ▸ pA)
                  obtain ⟨fp', m3⟩ := m2.write hi hw (by rw [hAA]; exact List.mem_cons_of_mem _ pA) (Own.obj (dx := dx) so (by rw [upd_ne hap]; exact g2.h.at _ _ ha) (by
                    cases zz : F2 a with
                    | none => rfl
                    | some u2 =>
                      rcases g2.new a u2 zz with y | y
                      · rw [fa] at y; cases y
                      · rw [ha] at y; cases y) hz oo na) fun y hy => .inl (by rw [hAA]; exact hy)
                  exact o2 fp' F2 σ _ (Same.refl _) m3
                · exact o2.elim
              · exact o2.elim
        · exact o'.elim
      · exact o'.elim
    · exact o'.elim⟩
end
end Mir
namespace Mir
open PySem PySem.Spec PyProof.Rows L2
variable [Tn]
theorem okQ_dic {n : Nat} {ks vs : List D} : okQ n (.dic ks vs) = false := by cases n <;> rfl
theorem eqD_S {a b : D} (h : ∀ ks vs, a ≠ .dic ks vs) : eqD a b = eqS a b := by
  unfold eqD
  split
  · exact absurd rfl (h _ _)
  · rfl
theorem neD_S {a b : D} (h : ∀ ks vs, a ≠ .dic ks vs) : neD a b = neS a b := by
  unfold neD
  split
  · exact absurd rfl (h _ _)
  · rfl
theorem eqD_ok {a b : D} (ha : okQ 64 a = true) (hb : okQ 64 b = true) : eqD a b = .ok (.bl (eqQ a b)) := by
  rw [eqD_S (fun ks vs e => by subst e; rw [okQ_dic] at ha; cases ha)]
  exact eqS_ok ha hb
theorem neD_ok {a b : D} (ha : okQ 64 a = true) (hb : okQ 64 b = true) : neD a b = .ok (.bl (!eqQ a b)) := by
  rw [neD_S (fun ks vs e => by subst e; rw [okQ_dic] at ha; cases ha)]
  exact neS_ok ha hb
@[simp] theorem eqD_int (i j : Int) : eqD (.int i) (.int j) = .ok (.bl (decide (i = j))) := eqS_int i j
@[simp] theorem neD_int (i j : Int) : neD (.int i) (.int j) = .ok (.bl (!decide (i = j))) := neS_int i j
theorem neD_tI (xs ys : List Int) : neD (tuI xs) (tuI ys) = .ok (.bl (!decide (xs = ys))) := by
  rw [neD_ok (by simp) (by simp), eqQ, eqQs_ints]
theorem eqD_tI (xs ys : List Int) : eqD (tuI xs) (tuI ys) = .ok (.bl (decide (xs = ys))) := by
  rw [eqD_ok (by simp) (by simp), eqQ, eqQs_ints]
@[simp] theorem ixD_lst (xs : List D) (i : Int) : ixD (.lst xs) (.int i) = match atI xs i with
    | some d => .ok d
    | none => .bad := rfl
@[simp] theorem ixD_tup (xs : List D) (i : Int) : ixD (.tup xs) (.int i) = match atI xs i with
    | some d => .ok d
    | none => .bad := rfl
@[simp] theorem ixD_scr (ns : List Int) (i : Int) : ixD (.scr ns) (.int i) = match atI ns i with
    | some n => .ok (.int n)
    | none => .bad := rfl
theorem atI_nat {α : Type} (xs : List α) (i : Nat) (h : i < xs.length) : atI xs (i : Int) = xs[i]? := by
  unfold atI ixN
  rw [if_pos (Int.natCast_nonneg i), if_pos (by omega)]
  rfl
theorem atI_int {α : Type} (xs : List α) (i : Int) (h0 : 0 ≤ i) (h : i < xs.length) : atI xs i = xs[i.toNat]? := by
  have e : i = ((i.toNat : Nat) : Int) := by omega
  rw [e, atI_nat xs i.toNat (by omega)]
  rfl
theorem ixD_tI {xs : List Int} {i : Nat} (h : i < xs.length) : ixD (tuI xs) (.int (i : Nat)) = .ok (.int (xs.getD i 0)) := by
  have e : xs[i]? = some (xs.getD i 0) := by rw [List.getD_eq_getElem?_getD, List.getElem?_eq_getElem h]; rfl
  rw [ixD_tup, atI_nat _ _ (by simpa using h), List.getElem?_map, e]
  rfl
theorem atI_getD {ns : List Int} {i : Int} (h0 : 0 ≤ i) (h1 : i < ns.length) : atI ns i = some (ns.getD i.toNat 0) := by
  rw [atI_int ns i h0 h1, List.getD_eq_getElem?_getD, List.getElem?_eq_getElem (by omega)]
  rfl
/-- one of a row of data by a rest -/
theorem ixD_pick {xs : List D} (c : Int) (n : Int) (hn : n = xs.length) (h0 : 0 < n) : ∃ d, d ∈ xs ∧ ixD (.lst xs) (.int (c % n)) = .ok d := by
  have h1 := Int.emod_nonneg c (b := n) (by omega)
  have h2 := Int.emod_lt_of_pos c (b := n) h0
  have hl : (c % n).toNat < xs.length := by omega
  refine ⟨xs[(c % n).toNat], List.getElem_mem hl, ?_⟩
  rw [ixD_lst, atI_int xs _ h1 (by omega), List.getElem?_eq_getElem hl]
@[simp] theorem bits0 : bits 0 = 0 := rfl
theorem bits_lt {i : Int} {n : Nat} (hn : 0 < n) (h : i.natAbs < 2 ^ n) : bits i < n := by
  unfold bits
  by_cases h0 : i.natAbs = 0
  · rw [h0]; simpa using hn
  · exact (Nat.log2_lt h0).mpr h
theorem mulD_bits {i j : Int} (h : bits i + bits j < 1000000) : mulD (.int i) (.int j) = .ok (.int (i * j)) := if_pos (.inl h)
theorem zipL2_ints (xs ys : List Int) : zipL2 (xs.map D.int) (ys.map D.int) = (xs.zip ys).map fun p => .tup [.int p.1, .int p.2] := by
  unfold zipL2
  rw [List.zip_map, List.map_map]
  rfl
theorem zipL3_ints (xs ys zs : List Int) : zipL3 (xs.map D.int) (ys.map D.int) (zs.map D.int) = (xs.zip (ys.zip zs)).map fun p => .tup [.int p.1, .int p.2.1, .int p.2.2] := by
  unfold zipL3
  rw [List.zip_map, List.zip_map, List.map_map]
  rfl
theorem lcD_gmap {α : Type} {g : D → Env → Res Env} {t : Env → Res Bool} {f : Env → Res D} {r : Env} (A : α → D) (F : α → D) : ∀ {xs : List α}, (∀ a ∈ xs, ∃ r1, g (A a) r = .ok r1 ∧ t r1 = .ok true ∧ f r1 = .ok (F a)) → lcD g t f r (xs.map A) = .ok (xs.map F)
  | [], _ => rfl
  | a :: xs, h => by
    obtain ⟨r1, h1, h2, h3⟩ := h a List.mem_cons_self
    rw [List.map_cons, lcD, h1]
    simp only [nE_ok, ok_bind, h2, if_true, h3, lcD_gmap A F fun d hd => h d (List.mem_cons_of_mem _ hd)]
    rfl
theorem lcD_zip2 {t : Env → Res Bool} {f : Env → Res D} {r : Env} {i j : Nat} {xs ys : List Int} (F : Int × Int → D) (h : ∀ p ∈ xs.zip ys, t ((r.set i (.sh (.int p.1))).set j (.sh (.int p.2))) = .ok true ∧ f ((r.set i (.sh (.int p.1))).set j (.sh (.int p.2))) = .ok (F p)) :
    lcD (tupG 2 (consG (nameG i) (consG (nameG j) nilG))) t f r (zipL2 (xs.map D.int) (ys.map D.int)) = .ok ((xs.zip ys).map F) := by
  rw [zipL2_ints]
  exact lcD_gmap (fun p : Int × Int => .tup [.int p.1, .int p.2]) F fun p hp => ⟨_, rfl, h p hp⟩
theorem lcD_zip3 {t : Env → Res Bool} {f : Env → Res D} {r : Env} {i j k : Nat} {xs ys zs : List Int} (F : Int × Int × Int → D) (h : ∀ p ∈ xs.zip (ys.zip zs), t (((r.set i (.sh (.int p.1))).set j (.sh (.int p.2.1))).set k (.sh (.int p.2.2))) = .ok true ∧ f (((r.set i (.sh (.int p.1))).set j (.sh (.int p.2.1))).set k (.sh (.int p.2.2))) = .ok (F p)) :
    lcD (tupG 3 (consG (nameG i) (consG (nameG j) (consG (nameG k) nilG)))) t f r (zipL3 (xs.map D.int) (ys.map D.int) (zs.map D.int)) = .ok ((xs.zip (ys.zip zs)).map F) := by
  rw [zipL3_ints]
  exact lcD_gmap (fun p : Int × Int × Int => .tup [.int p.1, .int p.2.1, .int p.2.2]) F fun p hp => ⟨_, rfl, h p hp⟩
/-- one name, over anything -/
theorem lcD_one {α : Type} {t : Env → Res Bool} {f : Env → Res D} {r : Env} {i : Nat} (A : α → D) (F : α → D) {xs : List α} (h : ∀ a ∈ xs, t (r.set i (.sh (A a))) = .ok true ∧ f (r.set i (.sh (A a))) = .ok (F a)) : lcD (nameG i) t f r (xs.map A) = .ok (xs.map F) :=
  lcD_gmap A F fun a ha => ⟨_, rfl, h a ha⟩
theorem lcD_ints {t : Env → Res Bool} {f : Env → Res D} {r : Env} {i : Nat} (F : Int → D) {xs : List Int} (h : ∀ a ∈ xs, t (r.set i (.sh (.int a))) = .ok true ∧ f (r.set i (.sh (.int a))) = .ok (F a)) : lcD (nameG i) t f r (xs.map D.int) = .ok (xs.map F) := lcD_one D.int F h
theorem rangeL_nat (n : Nat) : rangeL 0 n = (List.range n).map fun i : Nat => D.int i := by
  unfold rangeL
  exact List.map_congr_left fun i _ => by rw [Int.zero_add]
theorem lcD_range {t : Env → Res Bool} {f : Env → Res D} {r : Env} {i : Nat} (F : Nat → D) {n : Nat} (h : ∀ k, k < n → t (r.set i (.sh (.int (k : Nat)))) = .ok true ∧ f (r.set i (.sh (.int (k : Nat)))) = .ok (F k)) : lcD (nameG i) t f r (rangeL 0 n) = .ok ((List.range n).map F) := by
  rw [rangeL_nat]
  exact lcD_one (fun k : Nat => D.int k) F fun k hk => h k (List.mem_range.mp hk)
theorem trsD_bls : ∀ bs : List Bool, trsD (bs.map D.bl) = some bs
  | [] => rfl
  | b :: bs => by rw [List.map_cons, trsD, trsD_bls bs]; rfl
theorem allT_bls (bs : List Bool) : allT (.lst (bs.map D.bl)) = .ok (.bl (bs.all id)) := by
  unfold allT
  simp only [trsD_bls]
@[simp] theorem atI0 {α : Type} (a : α) (xs : List α) : atI (a :: xs) 0 = some a := by
  rw [show (0 : Int) = ((0 : Nat) : Int) from rfl, atI_nat _ _ (by simp)]
  rfl
@[simp] theorem atI1 {α : Type} (a b : α) (xs : List α) : atI (a :: b :: xs) 1 = some b := by
  rw [show (1 : Int) = ((1 : Nat) : Int) from rfl, atI_nat _ _ (by simp)]
  rfl
@[simp] theorem atI2 {α : Type} (a b c : α) (xs : List α) : atI (a :: b :: c :: xs) 2 = some c := by
  rw [show (2 : Int) = ((2 : Nat) : Int) from rfl, atI_nat _ _ (by simp)]
  rfl
@[simp] theorem addD_tup (xs ys : List D) : addD (.tup xs) (.tup ys) = if xs.length + ys.length ≤ lim then .ok (.tup (xs ++ ys)) else .bad := rfl
@[simp] theorem addD_lst (xs ys : List D) : addD (.lst xs) (.lst ys) = if xs.length + ys.length ≤ lim then .ok (.lst (xs ++ ys)) else .bad := rfl
@[simp] theorem sliceD_tup (xs : List D) (lo hi : Option Int) : sliceD (.tup xs) lo hi = .ok (.tup (cutD xs lo hi)) := rfl
@[simp] theorem sliceD_lst (xs : List D) (lo hi : Option Int) : sliceD (.lst xs) lo hi = .ok (.lst (cutD xs lo hi)) := rfl
/-- names that one owns are shared ahead of a statement -/
noncomputable def frzAt (i : Nat) (g : Env → Oc) (r : Env) : Oc := g (freeze i r)
@[simp] theorem frzAt_eq (i : Nat) (g : Env → Oc) (r : Env) : frzAt i g r = g (freeze i r) := rfl
theorem rs_frz (i : Nat) {X : Cx} {W : Wi} {k : Kd} {s : Stmt} {g : Env → Oc} (h : RS X W k s g) : RS X W k s (fun r => frzAt i g r) := rs_freeze i h
end Mir
namespace Mir
open PySem PySem.Spec PyProof.Rows L2
variable [Tn]
noncomputable def kI (x : List Int) : NestedKey := .tup (x.map .num)
theorem keysOf_ints : ∀ x : List Int, keyOf.keysOf (x.map D.int) = some (x.map .num)
  | [] => by simp [keyOf.keysOf]
  | i :: x => by rw [List.map_cons, keyOf.keysOf, keysOf_ints x]; simp [keyOf]
theorem keyOf_tuI (x : List Int) : keyOf (tuI x) = some (kI x) := by
  show (keyOf.keysOf (x.map D.int)).map NestedKey.tup = _
  rw [keysOf_ints]
  rfl
theorem depth_nums : ∀ x : List Int, NestedKey.depthAll (x.map NestedKey.num) = 0
  | [] => by simp [NestedKey.depthAll]
  | i :: x => by rw [List.map_cons, NestedKey.depthAll, depth_nums x]; simp [NestedKey.depth]
theorem depth_kI (x : List Int) : (kI x).depth = 1 := by
  unfold kI
  rw [NestedKey.depth, depth_nums]
theorem kI_inj {x y : List Int} (h : kI x = kI y) : x = y := by
  unfold kI at h
  injection h with h
  have z : ∀ x y : List Int, x.map NestedKey.num = y.map NestedKey.num → x = y := fun x => by
    induction x with
    | nil => intro y h; cases y with
      | nil => rfl
      | cons a b => cases h
    | cons a x ih =>
      intro y h
      cases y with
      | nil => cases h
      | cons b y =>
        rw [List.map_cons, List.map_cons] at h
        injection h with h1 h2
        injection h1 with h1
        rw [h1, ih y h2]
  exact z x y h
/-- data as keys -/
structure KeyE {α : Type} (E : α → D) (Q : α → NestedKey) : Prop where
  t : ∀ a, keyT (E a) = some (Q a)
  inj : ∀ a b, Q a = Q b → a = b
theorem KeyE.of {α : Type} {E : α → D} {Q : α → NestedKey} (K : KeyE E Q) (a : α) : keyOf (E a) = some (Q a) := (keyT_some (K.t a)).2.1
theorem keyE : KeyE tuI kI := ⟨fun x => by
  unfold keyT
  simp only [keyOf_tuI, depth_kI]
  rfl, fun _ _ => kI_inj⟩
noncomputable abbrev pkD (p : List Int × List Int) : D := .tup [tuI p.1, tuI p.2]
noncomputable def kP (p : List Int × List Int) : NestedKey := .tup [kI p.1, kI p.2]
theorem keyP : KeyE pkD kP := ⟨fun p => by
  have e : keyOf (pkD p) = some (kP p) := by
    show (keyOf.keysOf [tuI p.1, tuI p.2]).map NestedKey.tup = _
    rw [keyOf.keysOf, keyOf_tuI, keyOf.keysOf, keyOf_tuI, keyOf.keysOf]
    rfl
  have d : (kP p).depth = 2 := by
    unfold kP
    rw [NestedKey.depth, NestedKey.depthAll, NestedKey.depthAll, NestedKey.depthAll, depth_kI, depth_kI]
    rfl
  unfold keyT
  simp only [e, d]
  rfl, fun p q h => by
  unfold kP at h
  injection h with h
  injection h with h1 h
  injection h with h2 _
  exact Prod.ext (kI_inj h1) (kI_inj h2)⟩
/-- two whole numbers as a key -/
noncomputable abbrev ikD (p : Int × Int) : D := .tup [.int p.1, .int p.2]
theorem keyII : KeyE ikD (fun p => .tup [.num p.1, .num p.2]) := ⟨fun p => by
  unfold keyT
  have e : keyOf (ikD p) = some (.tup [.num p.1, .num p.2]) := by
    show (keyOf.keysOf [D.int p.1, D.int p.2]).map NestedKey.tup = _
    rw [keyOf.keysOf, keyOf.keysOf, keyOf.keysOf]
    simp [keyOf]
  simp only [e]
  rw [if_pos (by simp [NestedKey.depth, NestedKey.depthAll])], fun p q h => by
  injection h with h
  injection h with h1 h
  injection h with h2 _
  injection h1 with h1
  injection h2 with h2
  exact Prod.ext h1 h2⟩
section
variable {α β : Type} [DecidableEq α]
noncomputable def lookA (l : List (α × β)) (a : α) : Option β := (l.find? fun p => decide (p.1 = a)).map (·.2)
noncomputable def hasA (l : List (α × β)) (a : α) : Bool := l.any fun p => decide (p.1 = a)
noncomputable def setA (l : List (α × β)) (a : α) (b : β) : List (α × β) := if hasA l a = true then l.map (fun p => if p.1 = a then (p.1, b) else p) else l ++ [(a, b)]
noncomputable def delA (l : List (α × β)) (a : α) : List (α × β) := l.filter fun p => decide (p.1 ≠ a)
noncomputable def dicA (E : α → D) (V : β → D) (l : List (α × β)) : D := .dic (l.map fun p => E p.1) (l.map fun p => V p.2)
variable {E : α → D} {V : β → D} {Q : α → NestedKey}
theorem getK_A (K : KeyE E Q) (a : α) : ∀ l : List (α × β), getK (l.map fun p => E p.1) (l.map fun p => V p.2) (Q a) = (lookA l a).map V
  | [] => by simp [getK, lookA]
  | p :: l => by
    rw [List.map_cons, List.map_cons, getK, K.of]
    unfold lookA
    rw [List.find?_cons]
    by_cases h : p.1 = a
    · rw [if_pos (by rw [h]), decide_eq_true h]
      rfl
    · rw [if_neg (fun z => h (K.inj _ _ (Option.some.inj z))), decide_eq_false h, getK_A K a l]
      rfl
theorem hasK_A (K : KeyE E Q) (a : α) (l : List (α × β)) : hasK (l.map fun p => E p.1) (Q a) = hasA l a := by
  unfold hasK hasA
  rw [List.any_map]
  congr 1
  funext p
  simp only [Function.comp, K.of]
  by_cases h : p.1 = a
  · rw [decide_eq_true h, decide_eq_true (by rw [h])]
  · rw [decide_eq_false h, decide_eq_false (fun z => h (K.inj _ _ (Option.some.inj z)))]
theorem repK_A (K : KeyE E Q) (a : α) (b : β) : ∀ l : List (α × β), repK (l.map fun p => E p.1) (l.map fun p => V p.2) (Q a) (V b) = (l.map fun p => if p.1 = a then (p.1, b) else p).map fun p => V p.2
  | [] => by simp [repK]
  | p :: l => by
    rw [List.map_cons, List.map_cons, repK, K.of, repK_A K a b l, List.map_cons, List.map_cons]
    congr 1
    by_cases h : p.1 = a
    · rw [if_pos (by rw [h]), if_pos h]
    · rw [if_neg (fun z => h (K.inj _ _ (Option.some.inj z))), if_neg h]
theorem setK_A (K : KeyE E Q) (a : α) (b : β) (l : List (α × β)) : setK (l.map fun p => E p.1) (l.map fun p => V p.2) (E a) (Q a) (V b) = ((setA l a b).map fun p => E p.1, (setA l a b).map fun p => V p.2) := by
  unfold setK setA
  rw [hasK_A K]
  by_cases h : hasA l a = true
  · rw [if_pos h, if_pos h, repK_A K]
    have e : (l.map fun p => E p.1) = (l.map fun p => if p.1 = a then (p.1, b) else p).map fun p => E p.1 := by
      rw [List.map_map]
      refine List.map_congr_left fun p _ => ?_
      show E p.1 = E (if p.1 = a then (p.1, b) else p).1
      split <;> rfl
    rw [← e]
  · rw [if_neg h, if_neg h, List.map_append, List.map_append]
    rfl
theorem delK_A (K : KeyE E Q) (a : α) : ∀ l : List (α × β), delK (l.map fun p => E p.1) (l.map fun p => V p.2) (Q a) = ((delA l a).map fun p => E p.1, (delA l a).map fun p => V p.2)
  | [] => by simp [delK, delA]
  | p :: l => by
    have ih := delK_A K a l
    rw [List.map_cons, List.map_cons, delK, K.of, ih]
    unfold delA
    rw [List.filter_cons]
    by_cases h : p.1 = a
    · rw [if_pos (by rw [h]), if_neg (by simp [h])]
    · rw [if_neg (fun z => h (K.inj _ _ (Option.some.inj z))), if_pos (by simp [h])]
      rfl
theorem ixD_A (K : KeyE E Q) (l : List (α × β)) (a : α) {b : β} (h : lookA l a = some b) : ixD (dicA E V l) (E a) = .ok (V b) := by
  unfold ixD dicA
  simp only [K.t, getK_A K, h]
  rfl
theorem notInD_A (K : KeyE E Q) (l : List (α × β)) (a : α) : notInD (E a) (dicA E V l) = .ok (.bl (!hasA l a)) := by
  unfold notInD dicA
  simp only [K.t, hasK_A K]
theorem setD_A (K : KeyE E Q) (l : List (α × β)) (a : α) (b : β) (hl : l.length < lim) : setD (dicA E V l) (E a) (V b) = .ok (dicA E V (setA l a b)) := by
  unfold setD dicA
  simp only [K.t, List.length_map, hl, if_true, setK_A K]
theorem setK_A' (K : KeyE E Q) (l : List (α × β)) (a : α) (b : β) : D.dic (setK (l.map fun p => E p.1) (l.map fun p => V p.2) (E a) (Q a) (V b)).1 (setK (l.map fun p => E p.1) (l.map fun p => V p.2) (E a) (Q a) (V b)).2 = dicA E V (setA l a b) := by
  rw [setK_A K]
  rfl
@[simp] theorem lenD_A (l : List (α × β)) : lenD (dicA E V l) = .ok (.int l.length) := by
  show Res.ok (D.int ((l.map fun p => E p.1).length : Nat)) = _
  rw [List.length_map]
@[simp] theorem itemsD_A (l : List (α × β)) : itemsD (dicA E V l) = .ok (l.map fun p => E p.1) := rfl
theorem pairsD_A (l : List (α × β)) : pairsD (dicA E V l) = .ok (l.map fun p => .tup [E p.1, V p.2]) := by
  show Res.ok (pairsK _ _) = _
  unfold pairsK
  rw [List.zip_map', List.map_map]
  rfl
theorem setA_new {l : List (α × β)} {a : α} (b : β) (h : a ∉ l.map (·.1)) : setA l a b = l ++ [(a, b)] := by
  unfold setA
  rw [if_neg]
  unfold hasA
  rw [List.any_eq_true]
  rintro ⟨p, hp, e⟩
  exact h (List.mem_map.mpr ⟨p, hp, of_decide_eq_true e⟩)
theorem lookA_mem {l : List (α × β)} {a : α} {b : β} (hn : (l.map (·.1)).Nodup) (h : (a, b) ∈ l) : lookA l a = some b := by
  induction l with
  | nil => cases h
  | cons p l ih =>
    rw [List.map_cons, List.nodup_cons] at hn
    unfold lookA
    rw [List.find?_cons]
    rcases List.mem_cons.mp h with z | z
    · subst z
      rw [decide_eq_true rfl]
      rfl
    · have ne : p.1 ≠ a := fun e => hn.1 (by rw [e]; exact List.mem_map.mpr ⟨_, z, rfl⟩)
      rw [decide_eq_false ne]
      exact ih hn.2 z
theorem lookA_map {l : List α} (f : α → β) {a : α} (h : a ∈ l) : lookA (l.map fun x => (x, f x)) a = some (f a) := by
  induction l with
  | nil => cases h
  | cons x l ih =>
    unfold lookA
    rw [List.map_cons, List.find?_cons]
    by_cases e : x = a
    · subst e
      rw [decide_eq_true rfl]
      rfl
    · rw [decide_eq_false (by simpa using e)]
      rcases List.mem_cons.mp h with z | z
      · exact (e z.symm).elim
      · exact ih z
theorem hasA_map (l : List α) (f : α → β) (a : α) : hasA (l.map fun x => (x, f x)) a = decide (a ∈ l) := by
  unfold hasA
  rw [List.any_map, Bool.eq_iff_iff, List.any_eq_true, decide_eq_true_iff]
  constructor
  · rintro ⟨x, hx, e⟩
    have e' : x = a := of_decide_eq_true e
    rw [← e']
    exact hx
  · intro h
    exact ⟨a, h, decide_eq_true rfl⟩
/-- a table told by a function on a row of keys -/
noncomputable abbrev dicF (E : α → D) (V : β → D) (l : List α) (f : α → β) : D := dicA E V (l.map fun x => (x, f x))
theorem setA_map (l : List α) (f : α → β) (a : α) (b : β) (h : a ∈ l) : setA (l.map fun x => (x, f x)) a b = l.map fun x => (x, if x = a then b else f x) := by
  unfold setA
  rw [hasA_map, if_pos (decide_eq_true h), List.map_map]
  exact List.map_congr_left fun x _ => by
    simp only [Function.comp]
    by_cases e : x = a
    · rw [if_pos e, if_pos e]
    · rw [if_neg e, if_neg e]
end
/-- two tables with the same row of keys, whose values are rows of whole numbers -/
theorem sameK_A {α : Type} [DecidableEq α] {E : α → D} {Q : α → NestedKey} (K : KeyE E Q) (m : List (α × List Int)) : ∀ l : List (α × List Int), sameK (l.map fun p => E p.1) (l.map fun p => tuI p.2) (m.map fun p => E p.1) (m.map fun p => tuI p.2) = some (l.all fun p => decide (lookA m p.1 = some p.2))
  | [] => by simp [sameK]
  | p :: l => by
    have ih := sameK_A K m l
    rw [List.map_cons, List.map_cons, sameK, K.of, List.all_cons]
    simp only [getK_A K (V := tuI)]
    cases h : lookA m p.1 with
    | none => simp
    | some x =>
      have e : eqS (tuI p.2) (tuI x) = .ok (.bl (decide (p.2 = x))) := by
        rw [eqS_ok (by simp) (by simp), eqQ, eqQs_ints]
      simp only [Option.map_some, e]
      by_cases hx : p.2 = x
      · rw [decide_eq_true hx, ih, hx]
        simp
      · rw [decide_eq_false hx]
        have : ¬ x = p.2 := fun z => hx z.symm
        simp [this]
theorem eqD_A {α : Type} [DecidableEq α] {E : α → D} {Q : α → NestedKey} (K : KeyE E Q) (l m : List (α × List Int)) : eqD (dicA E tuI l) (dicA E tuI m) = .ok (.bl (decide (l.length = m.length) && l.all fun p => decide (lookA m p.1 = some p.2))) := by
  unfold eqD dicA sameD
  simp only [List.length_map, sameK_A K]
  by_cases h : l.length = m.length
  · rw [if_pos h, decide_eq_true h, Bool.true_and]
  · rw [if_neg h, decide_eq_false h, Bool.false_and]
theorem neD_A {α : Type} [DecidableEq α] {E : α → D} {Q : α → NestedKey} (K : KeyE E Q) (l m : List (α × List Int)) : neD (dicA E tuI l) (dicA E tuI m) = .ok (.bl (!(decide (l.length = m.length) && l.all fun p => decide (lookA m p.1 = some p.2)))) := by
  unfold neD dicA sameD
  simp only [List.length_map, sameK_A K]
  by_cases h : l.length = m.length
  · rw [if_pos h, decide_eq_true h, Bool.true_and]
  · rw [if_neg h, decide_eq_false h, Bool.false_and]
theorem eqD_F {α : Type} [DecidableEq α] {E : α → D} {Q : α → NestedKey} (K : KeyE E Q) (l : List α) (f g : α → List Int) : eqD (dicF E tuI l f) (dicF E tuI l g) = .ok (.bl (decide (∀ a ∈ l, f a = g a))) := by
  rw [eqD_A K]
  congr 2
  simp only [List.length_map, decide_true, Bool.true_and]
  rw [List.all_map, Bool.eq_iff_iff, List.all_eq_true, decide_eq_true_iff]
  constructor
  · intro h a ha
    have := h a ha
    simp only [Function.comp, lookA_map g ha, decide_eq_true_iff, Option.some.injEq] at this
    exact this.symm
  · intro h a ha
    simp only [Function.comp, lookA_map g ha, decide_eq_true_iff, Option.some.injEq]
    exact (h a ha).symm
noncomputable def memsStep (found : List (List Int)) (n : Int) : List (List Int) := found.flatMap fun x => (List.range n.toNat).map fun i : Nat => x ++ [(i : Int)]
noncomputable def mems (rs : List Int) : List (List Int) := rs.foldl memsStep [[]]
noncomputable def prs (rs : List Int) : List (List Int × List Int) := (mems rs).flatMap fun x => (mems rs).map fun y => (x, y)
theorem mem_prs {rs x y : List Int} : (x, y) ∈ prs rs ↔ x ∈ mems rs ∧ y ∈ mems rs := by
  unfold prs
  rw [List.mem_flatMap]
  constructor
  · rintro ⟨a, ha, h⟩
    obtain ⟨b, hb, e⟩ := List.mem_map.mp h
    injection e with e1 e2
    subst e1 e2
    exact ⟨ha, hb⟩
  · rintro ⟨h1, h2⟩
    exact ⟨x, h1, List.mem_map.mpr ⟨y, h2, rfl⟩⟩
end Mir
namespace Mir
open PySem PySem.Spec PyProof.Rows L2
variable [Tn]
/-- a group by rounds -/
noncomputable abbrev gR (rs : List Int) : D := .obj 0 [tuI rs]
/-- rounds that make a group -/
structure OkR (rs : List Int) : Prop where
  two : ∀ n ∈ rs, 2 ≤ n
  len : rs.length ≤ 7
structure OkE (rs x : List Int) : Prop where
  len : x.length = rs.length
  at_ : ∀ p ∈ x.zip rs, 0 ≤ p.1 ∧ p.1 < p.2
theorem fld_rounds (rs : List Int) : fldD (plOf [0] "rounds") (gR rs) = .ok (tuI rs) := by
  have e : plOf [0] "rounds" 0 = some 0 := by kernel_rfl
  unfold fldD
  simp [e]
theorem is_tuple (cs us : List Nat) (xs : List D) : isD cs us (.tup xs) (.ty "tuple") = .ok (.bl true) := rfl
theorem mem_zip2 {xs ys : List Int} {d : D} (h : d ∈ zipL2 (xs.map D.int) (ys.map D.int)) : ∃ p ∈ xs.zip ys, d = .tup [.int p.1, .int p.2] := by
  unfold zipL2 at h
  rw [List.zip_map, List.map_map] at h
  obtain ⟨p, hp, e⟩ := List.mem_map.mp h
  exact ⟨p, hp, e.symm⟩
/-- the sum by rounds -/
noncomputable def putV (rs x y : List Int) : List Int := (x.zip (y.zip rs)).map fun p => (p.1 + p.2.1) % p.2.2
noncomputable def backV (rs x : List Int) : List Int := (x.zip rs).map fun p => (0 - p.1) % p.2
noncomputable def zeroV (rs : List Int) : List Int := rs.map fun _ => 0
theorem putV_len {rs x y : List Int} (h1 : x.length = rs.length) (h2 : y.length = rs.length) : (putV rs x y).length = rs.length := by simp [putV, h1, h2]
theorem put_el {rs x y : List Int} (h : OkR rs) (h1 : x.length = rs.length) (h2 : y.length = rs.length) : OkE rs (putV rs x y) := by
  refine ⟨putV_len h1 h2, fun p hp => ?_⟩
  obtain ⟨i, hi⟩ := List.getElem?_of_mem hp
  obtain ⟨g1, g2⟩ := List.getElem?_zip_eq_some.mp hi
  unfold putV at g1
  rw [List.getElem?_map, Option.map_eq_some_iff] at g1
  obtain ⟨q, hq, e⟩ := g1
  obtain ⟨_, q2⟩ := List.getElem?_zip_eq_some.mp hq
  obtain ⟨_, q3⟩ := List.getElem?_zip_eq_some.mp q2
  have en : q.2.2 = p.2 := Option.some.inj (q3.symm.trans g2)
  have t : (2 : Int) ≤ p.2 := h.two _ (List.of_mem_zip hp).2
  rw [← e, en]
  exact ⟨Int.emod_nonneg _ (by omega), Int.emod_lt_of_pos _ (by omega)⟩
theorem backV_len {rs x : List Int} (h1 : x.length = rs.length) : (backV rs x).length = rs.length := by simp [backV, h1]
theorem back_el {rs x : List Int} (h : OkR rs) (h1 : x.length = rs.length) : OkE rs (backV rs x) := by
  refine ⟨backV_len h1, fun p hp => ?_⟩
  obtain ⟨i, hi⟩ := List.getElem?_of_mem hp
  obtain ⟨g1, g2⟩ := List.getElem?_zip_eq_some.mp hi
  unfold backV at g1
  rw [List.getElem?_map, Option.map_eq_some_iff] at g1
  obtain ⟨q, hq, e⟩ := g1
  obtain ⟨_, q3⟩ := List.getElem?_zip_eq_some.mp hq
  have en : q.2 = p.2 := Option.some.inj (q3.symm.trans g2)
  have t : (2 : Int) ≤ p.2 := h.two _ (List.of_mem_zip hp).2
  rw [← e, en]
  exact ⟨Int.emod_nonneg _ (by omega), Int.emod_lt_of_pos _ (by omega)⟩
theorem zero_el {rs : List Int} (h : OkR rs) : OkE rs (zeroV rs) := by
  refine ⟨by simp [zeroV], fun p hp => ?_⟩
  obtain ⟨q1, q2⟩ := List.of_mem_zip hp
  unfold zeroV at q1
  obtain ⟨n, _, e⟩ := List.mem_map.mp q1
  have t : (2 : Int) ≤ p.2 := h.two _ q2
  omega
/-- a while that goes down: k turns at most -/
theorem whileD_down {c : Env → Res Bool} {b : Env → Oc} (P : Nat → Env → Prop) (Q : Env → Prop) (step : ∀ k r, P k r → (c r = .ok false ∧ Q r) ∨ (∃ j r', k = j + 1 ∧ c r = .ok true ∧ b r = .nx r' ∧ P j r')) :
    ∀ (k N : Nat) (r : Env), P k r → k < N → ∃ r', whileD c b N r = .nx r' ∧ Q r' := fun k => by
  induction k with
  | zero =>
    intro N r hP hN
    obtain ⟨M, rfl⟩ : ∃ M, N = M + 1 := ⟨N - 1, by omega⟩
    rcases step 0 r hP with ⟨h1, h2⟩ | ⟨j, r', h, _⟩
    · exact ⟨r, by rw [whileD, h1]; rfl, h2⟩
    · omega
  | succ k ih =>
    intro N r hP hN
    obtain ⟨M, rfl⟩ : ∃ M, N = M + 1 := ⟨N - 1, by omega⟩
    rcases step (k + 1) r hP with ⟨h1, h2⟩ | ⟨j, r', h, h1, h2, h3⟩
    · exact ⟨r, by rw [whileD, h1]; rfl, h2⟩
    · obtain rfl : k = j := by omega
      obtain ⟨r2, q1, q2⟩ := ih M r' h3 (by omega)
      refine ⟨r2, ?_, q2⟩
      rw [whileD, h1]
      simp only [lift_ok, if_true, h2]
      exact q1
theorem loopD_down {c : Env → Res Bool} {b : Env → Oc} (P : Nat → Env → Prop) (Q : Env → Prop) (step : ∀ k r, P k r → (c r = .ok false ∧ Q r) ∨ (∃ j r', k = j + 1 ∧ c r = .ok true ∧ b r = .nx r' ∧ P j r'))
    {k : Nat} {r : Env} (h : P k r) (hk : k < 1000000) : ∃ r', loopD c b r = .nx r' ∧ Q r' := by
  unfold loopD
  rw [turns_eq]
  exact whileD_down P Q step k _ r h hk
/-- so many times -/
noncomputable def timesV (rs : List Int) (n : Int) (x : List Int) : List Int := (x.zip rs).map fun p => n * p.1 % p.2
/-- rounds that the program takes -/
structure OkG (rs : List Int) : Prop where
  ok : OkR rs
  most : ∀ n ∈ rs, n ≤ 144
  prod : rs.foldl (· * ·) 1 ≤ 144
theorem take_more {α : Type} {l : List α} {i : Nat} {x : α} (h : l[i]? = some x) : l.take (i + 1) = l.take i ++ [x] := by
  rw [List.take_add_one, h]
  rfl
theorem is_seq (src : D) (rs : List Int) (h : src = tuI rs ∨ src = liI rs) (cs us : List Nat) : isD cs us src (.tup [.ty "list", .ty "tuple"]) = .ok (.bl true) := by
  rcases h with rfl | rfl <;> kernel_rfl
theorem runI_nx {p n c : Nat} {g : Env → Oc} {ds : List D} {r : Env} (h : ds.length = p) (e : g (startI n c ds) = .nx r) : runI p n c g ds = selfR r := by
  unfold runI
  rw [if_pos h, e]
theorem getD_zip {xs ys : List Int} {f : Int × Int → Int} {i : Nat} (h1 : i < xs.length) (h2 : i < ys.length) : ((xs.zip ys).map f).getD i 0 = f (xs.getD i 0, ys.getD i 0) := by
  have e1 : xs[i]? = some (xs.getD i 0) := by rw [List.getD_eq_getElem?_getD, List.getElem?_eq_getElem h1]; rfl
  have e2 : ys[i]? = some (ys.getD i 0) := by rw [List.getD_eq_getElem?_getD, List.getElem?_eq_getElem h2]; rfl
  have e3 : (xs.zip ys)[i]? = some (xs.getD i 0, ys.getD i 0) := List.getElem?_zip_eq_some.mpr ⟨e1, e2⟩
  rw [List.getD_eq_getElem?_getD, List.getElem?_map, e3]
  rfl
theorem putV_at {rs x y : List Int} {i : Nat} (hi : i < rs.length) (h1 : x.length = rs.length) (h2 : y.length = rs.length) : (putV rs x y).getD i 0 = (x.getD i 0 + y.getD i 0) % rs.getD i 0 := by
  have e1 : x[i]? = some (x.getD i 0) := by rw [List.getD_eq_getElem?_getD, List.getElem?_eq_getElem (by omega)]; rfl
  have e2 : y[i]? = some (y.getD i 0) := by rw [List.getD_eq_getElem?_getD, List.getElem?_eq_getElem (by omega)]; rfl
  have e3 : rs[i]? = some (rs.getD i 0) := by rw [List.getD_eq_getElem?_getD, List.getElem?_eq_getElem hi]; rfl
  have e4 : (x.zip (y.zip rs))[i]? = some (x.getD i 0, y.getD i 0, rs.getD i 0) := List.getElem?_zip_eq_some.mpr ⟨e1, List.getElem?_zip_eq_some.mpr ⟨e2, e3⟩⟩
  unfold putV
  rw [List.getD_eq_getElem?_getD, List.getElem?_map, e4]
  rfl
theorem ext_getD {xs ys : List Int} (hl : xs.length = ys.length) (h : ∀ i, i < ys.length → xs.getD i 0 = ys.getD i 0) : xs = ys := by
  apply List.ext_getElem hl
  intro i h1 h2
  have := h i h2
  rw [List.getD_eq_getElem?_getD, List.getD_eq_getElem?_getD, List.getElem?_eq_getElem h1, List.getElem?_eq_getElem h2] at this
  exact this
theorem OkE.get {rs x : List Int} (h : OkE rs x) {i : Nat} (hi : i < rs.length) : 0 ≤ x.getD i 0 ∧ x.getD i 0 < rs.getD i 0 := by
  have e1 : x[i]? = some (x.getD i 0) := by rw [List.getD_eq_getElem?_getD, List.getElem?_eq_getElem (by rw [h.len]; exact hi)]; rfl
  have e3 : rs[i]? = some (rs.getD i 0) := by rw [List.getD_eq_getElem?_getD, List.getElem?_eq_getElem hi]; rfl
  exact h.at_ _ (List.mem_of_getElem? (List.getElem?_zip_eq_some.mpr ⟨e1, e3⟩ : (x.zip rs)[i]? = some (x.getD i 0, rs.getD i 0)))
theorem OkR.get {rs : List Int} (h : OkR rs) {i : Nat} (hi : i < rs.length) : 2 ≤ rs.getD i 0 := by
  have e3 : rs[i]? = some (rs.getD i 0) := by rw [List.getD_eq_getElem?_getD, List.getElem?_eq_getElem hi]; rfl
  exact h.two _ (List.mem_of_getElem? e3)
theorem zeroV_at (rs : List Int) (i : Nat) : (zeroV rs).getD i 0 = 0 := by
  unfold zeroV
  rw [List.getD_eq_getElem?_getD, List.getElem?_map]
  cases rs[i]? <;> rfl
/-- what stays while the number is halved -/
structure TInv (rs x0 : List Int) (n0 n : Int) (x f : List Int) : Prop where
  lx : x.length = rs.length
  ef : OkE rs f
  nn : 0 ≤ n
  eq : ∀ i, i < rs.length → (f.getD i 0 + n * x.getD i 0) % rs.getD i 0 = n0 * x0.getD i 0 % rs.getD i 0
theorem timesV_at {rs x : List Int} {n : Int} {i : Nat} (hi : i < rs.length) (hl : x.length = rs.length) : (timesV rs n x).getD i 0 = n * x.getD i 0 % rs.getD i 0 := getD_zip (f := fun p => n * p.1 % p.2) (by omega) hi
theorem TInv.done {rs x0 x f : List Int} {n0 : Int} (h : OkR rs) (hl : x0.length = rs.length) (v : TInv rs x0 n0 0 x f) : f = timesV rs n0 x0 := by
  refine ext_getD (by rw [v.ef.len]; simp [timesV, hl]) fun i hi => ?_
  have hi' : i < rs.length := by simpa [timesV, hl] using hi
  have e := v.eq i hi'
  obtain ⟨a, b⟩ := v.ef.get hi'
  rw [Int.zero_mul, Int.add_zero, Int.emod_eq_of_lt a b] at e
  rw [e, timesV_at hi' hl]
theorem backV_at {rs x : List Int} {i : Nat} (hi : i < rs.length) (hl : x.length = rs.length) : (backV rs x).getD i 0 = (0 - x.getD i 0) % rs.getD i 0 := getD_zip (f := fun p => (0 - p.1) % p.2) (by omega) hi
theorem timesV_len (rs x : List Int) (n : Int) (hl : x.length = rs.length) : (timesV rs n x).length = rs.length := by simp [timesV, hl]
theorem foldl_pos : ∀ (rs : List Int) (a : Int), 1 ≤ a → (∀ n ∈ rs, 2 ≤ n) → 1 ≤ rs.foldl (· * ·) a
  | [], _, h, _ => h
  | r :: rs, a, h, h2 => foldl_pos rs (a * r) (by
    have := h2 r List.mem_cons_self
    have q : 1 * 1 ≤ a * r := Int.mul_le_mul h (by omega) (by omega) (by omega)
    omega) fun n hn => h2 n (List.mem_cons_of_mem _ hn)
theorem times_succ {rs x : List Int} (hl : x.length = rs.length) (j : Nat) : putV rs (timesV rs j x) x = timesV rs ((j + 1 : Nat) : Int) x := ext_getD (by rw [putV_len (timesV_len rs x j hl) hl, timesV_len rs x _ hl]) fun i hi => by
  have hi' : i < rs.length := by rw [timesV_len rs x _ hl] at hi; exact hi
  rw [putV_at hi' (timesV_len rs x j hl) hl, timesV_at hi' hl, timesV_at hi' hl]
  have e : ((j + 1 : Nat) : Int) * x.getD i 0 = (j : Int) * x.getD i 0 + x.getD i 0 := by
    rw [Int.natCast_add, Int.add_mul]
    show _ + (1 : Int) * _ = _
    rw [Int.one_mul]
  rw [e, Int.emod_add_emod]
theorem prod_app (f : List Int) (a b : Int) : (f ++ [a]).foldl (· * ·) b = f.foldl (· * ·) b * a := by rw [List.foldl_append]; rfl
/-- what stays while rounds are drawn -/
structure RIM (most : Int) (i : Nat) (f : List Int) (left : Int) : Prop where
  len : f.length ≤ i
  two : ∀ n ∈ f, 2 ≤ n
  le : ∀ n ∈ f, n ≤ most
  one : 1 ≤ left
  prod : f.foldl (· * ·) 1 * left ≤ most
theorem RIM.mono {most : Int} {i : Nat} {f : List Int} {left : Int} (v : RIM most i f left) : RIM most (i + 1) f left := ⟨by have := v.len; omega, v.two, v.le, v.one, v.prod⟩
end Mir
namespace Mir
open PySem PySem.Spec PyProof.Rows L2
variable [Tn]
theorem nodup_flat {α β : Type} {f : α → List β} : ∀ {l : List α}, (∀ a ∈ l, (f a).Nodup) → l.Pairwise (fun a b => ∀ x ∈ f a, x ∉ f b) → (l.flatMap f).Nodup
  | [], _, _ => by simp
  | a :: l, h, p => by
    rw [List.pairwise_cons] at p
    rw [List.flatMap_cons, List.nodup_append]
    refine ⟨h a List.mem_cons_self, nodup_flat (fun b hb => h b (List.mem_cons_of_mem _ hb)) p.2, fun x hx y hy e => ?_⟩
    subst e
    obtain ⟨b, hb, hy⟩ := List.mem_flatMap.mp hy
    exact p.1 b hb x hx hy
theorem nodup_inj {α β : Type} {f : α → β} (hf : ∀ a b, f a = f b → a = b) : ∀ {l : List α}, l.Nodup → (l.map f).Nodup
  | [], _ => by simp
  | a :: l, h => by
    rw [List.nodup_cons] at h
    rw [List.map_cons, List.nodup_cons]
    refine ⟨fun hm => ?_, nodup_inj hf h.2⟩
    obtain ⟨b, hb, e⟩ := List.mem_map.mp hm
    exact h.1 (hf _ _ e ▸ hb)
theorem sum_const {α : Type} (c : Nat) : ∀ l : List α, (l.map fun _ => c).sum = l.length * c
  | [] => by simp
  | a :: l => by rw [List.map_cons, List.sum_cons, sum_const c l, List.length_cons, Nat.succ_mul]; omega
theorem OkE.nil : OkE [] [] := ⟨rfl, fun _ h => nomatch h⟩
theorem OkE.cons {n i : Int} {rs t : List Int} : OkE (n :: rs) (i :: t) ↔ (0 ≤ i ∧ i < n) ∧ OkE rs t := by
  constructor
  · intro h
    refine ⟨h.at_ (i, n) (by simp), ⟨by have := h.len; simpa using this, fun p hp => h.at_ p (by rw [List.zip_cons_cons]; exact List.mem_cons_of_mem _ hp)⟩⟩
  · rintro ⟨h1, h2⟩
    refine ⟨by simp [h2.len], fun p hp => ?_⟩
    rw [List.zip_cons_cons] at hp
    rcases List.mem_cons.mp hp with z | z
    · subst z; exact h1
    · exact h2.at_ p z
theorem mem_fold : ∀ (rs : List Int) (S : List (List Int)) (x : List Int), x ∈ rs.foldl memsStep S ↔ ∃ s t, s ∈ S ∧ x = s ++ t ∧ OkE rs t
  | [], S, x => by
    rw [List.foldl_nil]
    constructor
    · intro h
      exact ⟨x, [], h, by simp, .nil⟩
    · rintro ⟨s, t, hs, rfl, ht⟩
      have : t = [] := List.length_eq_zero_iff.mp ht.len
      subst this
      simpa using hs
  | n :: rs, S, x => by
    rw [List.foldl_cons, mem_fold rs]
    constructor
    · rintro ⟨s, t, hs, rfl, ht⟩
      unfold memsStep at hs
      obtain ⟨a, ha, hs⟩ := List.mem_flatMap.mp hs
      obtain ⟨i, hi, rfl⟩ := List.mem_map.mp hs
      have := List.mem_range.mp hi
      exact ⟨a, (i : Int) :: t, ha, by simp, OkE.cons.mpr ⟨⟨by omega, by omega⟩, ht⟩⟩
    · rintro ⟨s, t, hs, rfl, ht⟩
      cases t with
      | nil => have := ht.len; simp at this
      | cons i t =>
        obtain ⟨⟨h1, h2⟩, h3⟩ := OkE.cons.mp ht
        refine ⟨s ++ [i], t, ?_, by simp, h3⟩
        unfold memsStep
        refine List.mem_flatMap.mpr ⟨s, hs, List.mem_map.mpr ⟨i.toNat, List.mem_range.mpr (by omega), ?_⟩⟩
        rw [Int.toNat_of_nonneg h1]
theorem mem_mems {rs x : List Int} : x ∈ mems rs ↔ OkE rs x := by
  unfold mems
  rw [mem_fold]
  constructor
  · rintro ⟨s, t, hs, rfl, ht⟩
    rw [List.mem_singleton.mp hs]
    simpa using ht
  · intro h
    exact ⟨[], x, by simp, by simp, h⟩
theorem step_len (S : List (List Int)) (n : Int) : (memsStep S n).length = S.length * n.toNat := by
  unfold memsStep
  rw [List.length_flatMap]
  simp [sum_const]
theorem fold_len : ∀ (rs : List Int) (S : List (List Int)), (∀ n ∈ rs, 0 ≤ n) → ((rs.foldl memsStep S).length : Int) = rs.foldl (· * ·) (S.length : Int)
  | [], S, _ => rfl
  | n :: rs, S, h => by
    rw [List.foldl_cons, List.foldl_cons, fold_len rs _ fun m hm => h m (List.mem_cons_of_mem _ hm), step_len]
    congr 1
    have := h n List.mem_cons_self
    rw [Int.natCast_mul, Int.toNat_of_nonneg this]
theorem mems_len {rs : List Int} (h : ∀ n ∈ rs, 0 ≤ n) : ((mems rs).length : Int) = rs.foldl (· * ·) 1 := by
  unfold mems
  rw [fold_len rs _ h]
  rfl
theorem fold_nodup : ∀ (rs : List Int) (S : List (List Int)) (k : Nat), S.Nodup → (∀ s ∈ S, s.length = k) → (rs.foldl memsStep S).Nodup
  | [], S, _, h, _ => h
  | n :: rs, S, k, h, hk => by
    rw [List.foldl_cons]
    refine fold_nodup rs _ (k + 1) ?_ fun s hs => ?_
    · unfold memsStep
      refine nodup_flat (fun s _ => ?_) ?_
      · refine nodup_inj (fun a b e => ?_) List.nodup_range
        have := List.append_cancel_left e
        have z : ((a : Nat) : Int) = b := by simpa using this
        omega
      · refine List.Pairwise.imp_of_mem (R := fun a b => a ≠ b) (fun {a b} ha hb ne => ?_) h
        intro x hx hy
        obtain ⟨i, _, rfl⟩ := List.mem_map.mp hx
        obtain ⟨j, _, e⟩ := List.mem_map.mp hy
        have := List.append_inj_left e (by rw [hk a ha, hk b hb])
        exact ne this.symm
    · unfold memsStep at hs
      obtain ⟨a, ha, hs⟩ := List.mem_flatMap.mp hs
      obtain ⟨i, _, rfl⟩ := List.mem_map.mp hs
      simp [hk a ha]
theorem mems_nodup (rs : List Int) : (mems rs).Nodup := fold_nodup rs [[]] 0 (by simp) (by simp)
theorem prs_nodup (rs : List Int) : (prs rs).Nodup := by
  unfold prs
  refine nodup_flat (fun x _ => ?_) ?_
  · exact nodup_inj (fun a b e => (Prod.mk.inj e).2) (mems_nodup rs)
  · refine List.Pairwise.imp (R := fun a b => a ≠ b) (fun {a b} ne => ?_) (mems_nodup rs)
    intro x hx hy
    obtain ⟨i, _, rfl⟩ := List.mem_map.mp hx
    obtain ⟨j, _, e⟩ := List.mem_map.mp hy
    exact ne (Prod.mk.inj e).1.symm
theorem prs_len (rs : List Int) : (prs rs).length = (mems rs).length * (mems rs).length := by
  unfold prs
  rw [List.length_flatMap]
  simp [sum_const]
/-- the upper groups that are let in -/
noncomputable def smallUps : List (List Int) := [[], [2], [3], [4], [5], [6], [7], [8], [9], [2, 2], [2, 3], [2, 4], [3, 2], [3, 3], [4, 2], [2, 2, 2]]
theorem small_ups {rs : List Int} (h : ∀ n ∈ rs, 2 ≤ n) (hp : rs.foldl (· * ·) 1 ≤ 9) : rs ∈ smallUps := by
  match rs, h, hp with
  | [], _, _ => decide
  | [a], h, hp =>
    have h2 := h a (by simp)
    have hp : 1 * a ≤ 9 := hp
    have : a = 2 ∨ a = 3 ∨ a = 4 ∨ a = 5 ∨ a = 6 ∨ a = 7 ∨ a = 8 ∨ a = 9 := by omega
    rcases this with rfl | rfl | rfl | rfl | rfl | rfl | rfl | rfl <;> decide
  | [a, b], h, hp =>
    have h2 := h a (by simp)
    have h3 := h b (by simp)
    have hp : 1 * a * b ≤ 9 := hp
    rw [Int.one_mul] at hp
    have ha : a ≤ 4 := by
      have := Int.mul_le_mul_of_nonneg_left h3 (show 0 ≤ a by omega)
      omega
    have hb : b ≤ 4 := by
      have := Int.mul_le_mul_of_nonneg_right h2 (show 0 ≤ b by omega)
      omega
    have e1 : a = 2 ∨ a = 3 ∨ a = 4 := by omega
    have e2 : b = 2 ∨ b = 3 ∨ b = 4 := by omega
    rcases e1 with rfl | rfl | rfl <;> rcases e2 with rfl | rfl | rfl <;> first | decide | (exfalso; omega)
  | [a, b, c], h, hp =>
    have h2 := h a (by simp)
    have h3 := h b (by simp)
    have h4 := h c (by simp)
    have hp : 1 * a * b * c ≤ 9 := hp
    rw [Int.one_mul] at hp
    have q1 : 2 * 2 ≤ a * b := Int.mul_le_mul h2 h3 (by omega) (by omega)
    have q2 : a * b * 2 ≤ a * b * c := Int.mul_le_mul_of_nonneg_left h4 (by omega)
    have q3 : 2 * 2 * c ≤ a * b * c := Int.mul_le_mul_of_nonneg_right q1 (by omega)
    have hc : c = 2 := by omega
    have hab : a * b ≤ 4 := by omega
    have ha : a ≤ 2 := by
      have := Int.mul_le_mul_of_nonneg_left h3 (show 0 ≤ a by omega)
      omega
    have hb : b ≤ 2 := by
      have := Int.mul_le_mul_of_nonneg_right h2 (show 0 ≤ b by omega)
      omega
    have e1 : a = 2 := by omega
    have e2 : b = 2 := by omega
    subst e1 e2 hc
    decide
  | a :: b :: c :: d :: rs, h, hp =>
    exfalso
    have h2 := h a (by simp)
    have h3 := h b (by simp)
    have h4 := h c (by simp)
    have h5 := h d (by simp)
    have hp : rs.foldl (· * ·) (1 * a * b * c * d) ≤ 9 := hp
    rw [Int.one_mul] at hp
    have q1 : 2 * 2 ≤ a * b := Int.mul_le_mul h2 h3 (by omega) (by omega)
    have q2 : 2 * 2 * 2 ≤ a * b * c := Int.mul_le_mul q1 h4 (by omega) (by omega)
    have q3 : 2 * 2 * 2 * 2 ≤ a * b * c * d := Int.mul_le_mul q2 h5 (by omega) (by omega)
    have mono : ∀ (l : List Int) (p : Int), 0 ≤ p → (∀ n ∈ l, 2 ≤ n) → p ≤ l.foldl (· * ·) p := fun l => by
      induction l with
      | nil => intro p _ _; exact Int.le_refl _
      | cons n l ih =>
        intro p hp hl
        rw [List.foldl_cons]
        have hn := hl n List.mem_cons_self
        have t : p * 1 ≤ p * n := Int.mul_le_mul_of_nonneg_left (by omega) hp
        have := ih (p * n) (by omega) fun m hm => hl m (List.mem_cons_of_mem _ hm)
        omega
    have := mono rs (a * b * c * d) (by omega) fun n hn => h n (by simp [hn])
    omega
theorem apart_prs {rs : List Int} (h : rs ∈ smallUps) : apartK ((prs rs).map pkD) = true := by
  simp only [smallUps, List.mem_cons, List.not_mem_nil, or_false] at h
  rcases h with rfl | rfl | rfl | rfl | rfl | rfl | rfl | rfl | rfl | rfl | rfl | rfl | rfl | rfl | rfl | rfl <;> decide +kernel
theorem apart_mems {rs : List Int} (h : rs ∈ smallUps) : apartK ((mems rs).map tuI) = true := by
  simp only [smallUps, List.mem_cons, List.not_mem_nil, or_false] at h
  rcases h with rfl | rfl | rfl | rfl | rfl | rfl | rfl | rfl | rfl | rfl | rfl | rfl | rfl | rfl | rfl | rfl <;> decide +kernel
theorem dictD_F {α β : Type} [DecidableEq α] {E : α → D} {V : β → D} (l : List α) (f : α → β) (h : apartK (l.map E) = true) : dictD (dicF E V l f) = .ok (dicF E V l f) := by
  unfold dictD dicF dicA
  have e : ((l.map fun x => (x, f x)).map fun p => E p.1) = l.map E := by rw [List.map_map]; rfl
  simp only [e, h, if_true]
/-- a walk over a row, by places -/
theorem forD_row {α : Type} {pre0 : List α} {f : D → Env → Oc} (A : α → D) (P : List α → Env → Prop) : ∀ {ds : List α} {r : Env} {pre : List α}, (∀ (pre : List α) a, (pre ++ [a]) <+: pre0 → ∀ r, P pre r → ∃ r', f (A a) r = .nx r' ∧ P (pre ++ [a]) r') → pre ++ ds = pre0 → P pre r → ∃ r', forD f (ds.map A) r = .nx r' ∧ P (pre ++ ds) r'
  | [], r, pre, _, _, hp => ⟨r, rfl, by simpa using hp⟩
  | a :: ds, r, pre, h, he, hp => by
    obtain ⟨r1, e, p1⟩ := h pre a ⟨ds, by simpa using he⟩ r hp
    obtain ⟨r2, e2, p2⟩ := forD_row A P (pre := pre ++ [a]) (ds := ds) h (by simpa using he) p1
    refine ⟨r2, ?_, by simpa using p2⟩
    rw [List.map_cons, forD_cons, e]
    exact e2
/-- a table -/
noncomputable def tabD (lo up : List Int) (c : List Int → List Int → List Int) : D := .obj 2 [gR lo, gR up, dicF pkD tuI (prs up) fun p => c p.1 p.2]
theorem runO_rt {p n : Nat} {g : Env → Oc} {ds : List D} {d : D} (h : ds.length = p) (e : g (startD n ds) = .rt d) : runO p n g ds = .ok d := by
  unfold runO
  rw [if_pos h, e]
theorem asF {α β : Type} [DecidableEq α] (d : β) {L : List (α × β)} (hn : (L.map (·.1)).Nodup) : L = (L.map (·.1)).map fun a => (a, (lookA L a).getD d) := by
  rw [List.map_map]
  have e : ∀ p ∈ L, ((fun a => (a, (lookA L a).getD d)) ∘ (·.1)) p = p := fun p hp => by
    show (p.1, (lookA L p.1).getD d) = p
    rw [lookA_mem hn (show (p.1, p.2) ∈ L from hp)]
    rfl
  rw [List.map_congr_left e]
  simp
theorem toF {lo up : List Int} {L : List ((List Int × List Int) × List Int)} (hk : L.map (·.1) = prs up) (hv : ∀ p ∈ L, OkE lo p.2) : ∃ c : List Int → List Int → List Int, (∀ x y, OkE up x → OkE up y → OkE lo (c x y)) ∧ dicA pkD tuI L = dicF pkD tuI (prs up) fun p => c p.1 p.2 := by
  have hn : (L.map (·.1)).Nodup := by rw [hk]; exact prs_nodup up
  refine ⟨fun x y => (lookA L (x, y)).getD [], fun x y hx hy => ?_, ?_⟩
  · have hm : (x, y) ∈ L.map (·.1) := by rw [hk]; exact mem_prs.mpr ⟨mem_mems.mpr hx, mem_mems.mpr hy⟩
    obtain ⟨p, hp, e⟩ := List.mem_map.mp hm
    have e2 := lookA_mem hn (show (p.1, p.2) ∈ L from hp)
    rw [e] at e2
    show OkE lo ((lookA L (x, y)).getD [])
    rw [e2]
    exact hv p hp
  · have := asF (d := ([] : List Int)) hn
    rw [hk] at this
    unfold dicF
    exact congrArg (dicA pkD tuI) this
theorem fill1 {N : Nat} {lo : List Int} {f : D → Env → Oc} {x : List Int} (P : List ((List Int × List Int) × List Int) → Env → Prop) : ∀ {ys : List (List Int)} {L : List ((List Int × List Int) × List Int)} {r : Env}, L.length + ys.length ≤ N → ys.Nodup → (∀ y ∈ ys, (x, y) ∉ L.map (·.1)) →
    (∀ L, L.length < N → ∀ y ∈ ys, (x, y) ∉ L.map (·.1) → ∀ r, P L r → ∃ v r', OkE lo v ∧ f (tuI y) r = .nx r' ∧ P (setA L (x, y) v) r') → P L r →
    ∃ L' r', forD f (ys.map tuI) r = .nx r' ∧ P (L ++ L') r' ∧ L'.map (·.1) = ys.map (fun y => (x, y)) ∧ ∀ p ∈ L', OkE lo p.2
  | [], L, r, _, _, _, _, hp => ⟨[], r, rfl, by simpa using hp, rfl, fun _ h => nomatch h⟩
  | y :: ys, L, r, hl, hn, hf, h, hp => by
    rw [List.length_cons] at hl
    rw [List.nodup_cons] at hn
    obtain ⟨v, r1, hv, e, p1⟩ := h L (by omega) y List.mem_cons_self (hf y List.mem_cons_self) r hp
    rw [setA_new v (hf y List.mem_cons_self)] at p1
    obtain ⟨L', r2, e2, p2, k2, v2⟩ := fill1 P (L := L ++ [((x, y), v)]) (r := r1) (by simp; omega) hn.2 (fun z hz hm => by
      rw [List.map_append, List.mem_append] at hm
      rcases hm with m | m
      · exact hf z (List.mem_cons_of_mem _ hz) m
      · rw [List.map_cons, List.map_nil, List.mem_singleton] at m
        injection m with _ m
        exact hn.1 (m ▸ hz)) (fun L hL z hz => h L hL z (List.mem_cons_of_mem _ hz)) p1
    refine ⟨((x, y), v) :: L', r2, ?_, by simpa using p2, by simp [k2], fun p hq => ?_⟩
    · rw [List.map_cons, forD_cons, e]
      exact e2
    · rcases List.mem_cons.mp hq with z | z
      · subst z; exact hv
      · exact v2 p z
theorem fill2 {N : Nat} {α : Type} {lo up : List Int} {outer inner : D → Env → Oc} (A : α → D) (kx : α → List Int) (P : List ((List Int × List Int) × List Int) → Env → Prop) (P' : List ((List Int × List Int) × List Int) → α → Env → Prop) : ∀ {X : List α} {L : List ((List Int × List Int) × List Int)} {r : Env}, L.length + X.length * (mems up).length ≤ N → (X.map kx).Nodup → (∀ a ∈ X, ∀ y ∈ mems up, (kx a, y) ∉ L.map (·.1)) →
    (∀ L, L.length < N → ∀ a ∈ X, ∀ y ∈ mems up, (kx a, y) ∉ L.map (·.1) → ∀ r, P' L a r → ∃ v r', OkE lo v ∧ inner (tuI y) r = .nx r' ∧ P' (setA L (kx a, y) v) a r') →
    (∀ L, ∀ a ∈ X, ∀ r, P L r → ∃ r1, P' L a r1 ∧ ∀ L' r2, forD inner ((mems up).map tuI) r1 = .nx r2 → P' L' a r2 → ∃ r3, outer (A a) r = .nx r3 ∧ P L' r3) → P L r →
    ∃ L' r', forD outer (X.map A) r = .nx r' ∧ P (L ++ L') r' ∧ L'.map (·.1) = X.flatMap (fun a => (mems up).map fun y => (kx a, y)) ∧ ∀ p ∈ L', OkE lo p.2
  | [], L, r, _, _, _, _, _, hp => ⟨[], r, rfl, by simpa using hp, rfl, fun _ h => nomatch h⟩
  | a :: X, L, r, hl, hn, hf, hi, ho, hp => by
    rw [List.length_cons, Nat.succ_mul] at hl
    rw [List.map_cons, List.nodup_cons] at hn
    obtain ⟨r1, p1, q⟩ := ho L a List.mem_cons_self r hp
    obtain ⟨L1, r2, e1, p2, k1, v1⟩ := fill1 (lo := lo) (f := inner) (x := kx a) (N := N) (fun L r => P' L a r) (by omega) (mems_nodup up) (hf a List.mem_cons_self) (fun L hL y hy hm r hr => hi L hL a List.mem_cons_self y hy hm r hr) p1
    obtain ⟨r3, e3, p3⟩ := q _ r2 e1 p2
    obtain ⟨L2, r4, e4, p4, k2, v2⟩ := fill2 A kx P P' (X := X) (L := L ++ L1) (r := r3) (by have := congrArg List.length k1; rw [List.length_map, List.length_map] at this; rw [List.length_append]; omega) hn.2 (fun b hb y hy hm => by
      rw [List.map_append, List.mem_append] at hm
      rcases hm with m | m
      · exact hf b (List.mem_cons_of_mem _ hb) y hy m
      · rw [k1] at m
        obtain ⟨z, _, e⟩ := List.mem_map.mp m
        injection e with e _
        exact hn.1 (e ▸ List.mem_map.mpr ⟨b, hb, rfl⟩)) (fun L hL b hb => hi L hL b (List.mem_cons_of_mem _ hb)) (fun L b hb => ho L b (List.mem_cons_of_mem _ hb)) p3
    refine ⟨L1 ++ L2, r4, ?_, by simpa using p4, by simp [k1, k2], fun p hq => ?_⟩
    · rw [List.map_cons, forD_cons, e3]
      exact e4
    · rcases List.mem_append.mp hq with z | z
      · exact v1 p z
      · exact v2 p z
theorem fillE {N : Nat} {α : Type} {lo : List Int} {f : D → Env → Oc} (A : α → D) (kx : α → List Int) (P : List (List Int × List Int) → Env → Prop) : ∀ {X : List α} {L : List (List Int × List Int)} {r : Env}, L.length + X.length ≤ N → (X.map kx).Nodup → (∀ a ∈ X, kx a ∉ L.map (·.1)) →
    (∀ L, L.length < N → ∀ a ∈ X, kx a ∉ L.map (·.1) → ∀ r, P L r → ∃ v r', OkE lo v ∧ f (A a) r = .nx r' ∧ P (setA L (kx a) v) r') → P L r →
    ∃ L' r', forD f (X.map A) r = .nx r' ∧ P (L ++ L') r' ∧ L'.map (·.1) = X.map kx ∧ ∀ p ∈ L', OkE lo p.2
  | [], L, r, _, _, _, _, hp => ⟨[], r, rfl, by simpa using hp, rfl, fun _ h => nomatch h⟩
  | a :: X, L, r, hl, hn, hf, h, hp => by
    rw [List.length_cons] at hl
    rw [List.map_cons, List.nodup_cons] at hn
    obtain ⟨v, r1, hv, e, p1⟩ := h L (by omega) a List.mem_cons_self (hf a List.mem_cons_self) r hp
    rw [setA_new v (hf a List.mem_cons_self)] at p1
    obtain ⟨L', r2, e2, p2, k2, v2⟩ := fillE (lo := lo) A kx P (L := L ++ [(kx a, v)]) (r := r1) (by simp; omega) hn.2 (fun z hz hm => by
      rw [List.map_append, List.mem_append] at hm
      rcases hm with m | m
      · exact hf z (List.mem_cons_of_mem _ hz) m
      · rw [List.map_cons, List.map_nil, List.mem_singleton] at m
        have m : kx z = kx a := m
        exact hn.1 (m ▸ List.mem_map.mpr ⟨z, hz, rfl⟩)) (fun L hL z hz => h L hL z (List.mem_cons_of_mem _ hz)) p1
    refine ⟨(kx a, v) :: L', r2, ?_, by simpa using p2, by simp [k2], fun p hq => ?_⟩
    · rw [List.map_cons, forD_cons, e]
      exact e2
    · rcases List.mem_cons.mp hq with z | z
      · subst z; exact hv
      · exact v2 p z
theorem lookA_all {lo : List Int} {α : Type} [DecidableEq α] {L : List (α × List Int)} (hn : (L.map (·.1)).Nodup) (hv : ∀ p ∈ L, OkE lo p.2) {x : α} (hx : x ∈ L.map (·.1)) : ∃ v, lookA L x = some v ∧ OkE lo v := by
  obtain ⟨p, hp, e⟩ := List.mem_map.mp hx
  refine ⟨p.2, ?_, hv p hp⟩
  subst e
  exact lookA_mem hn hp
theorem OkE.snoc {rs x : List Int} {n v : Int} (h : OkE rs x) (h0 : 0 ≤ v) (h1 : v < n) : OkE (rs ++ [n]) (x ++ [v]) := by
  refine ⟨by simp [h.len], fun p hp => ?_⟩
  rw [List.zip_append h.len] at hp
  rcases List.mem_append.mp hp with z | z
  · exact h.at_ p z
  · simp at z
    subst z
    exact ⟨h0, h1⟩
end Mir
namespace Mir
open PySem PySem.Spec PyProof.Rows L2
variable [Tn]
section
variable {G : GC} {F F2 : Hp} {b : Addr} {k : Bool} {n : Nat}
theorem Rd.thin (s : ∀ a o, a ≠ b → F a = some o → F2 a = some o) {a : Addr} {u : HO} (ha : a ≠ b) (h : Rd F a u) : Rd F2 a u := by
  rcases h with h | ⟨o, h⟩
  · exact .inl (s _ _ ha h)
  · exact .inr ⟨o, s _ _ ha h⟩
end
section
variable {G : GC} {J : L2.St → Prop} {H0 F0 F H : Hp} {fp : Nat → List Addr} {σ : L2.St} {r : Env}
theorem MS.freezeX (m : MS G J H0 F0 fp F σ H r) {i : Nat} {sp : Shape} {d : D} (e : r[i]? = some (.ow sp d)) : MS G J H0 F0 fp (share F H (fp i)) σ H (Mir.freeze i r) := by
  unfold Mir.freeze
  rw [e]
  obtain ⟨⟨v, h1, h2⟩, h3⟩ := m.ow i sp d e
  have hi : i < r.length := (List.getElem?_eq_some_iff.mp e).1
  refine ⟨m.jo, m.s0.share m.sub h2.nt, m.f0.trans (share_same m.sub _), share_sub m.sub _, fun a o q => ?_, by simpa using m.len, fun j e' h => ?_, fun j t e' h => ?_, fun j k t u d' e' n q1 q2 => ?_, m.t0⟩
  · by_cases ha : a ∈ fp i
    · exact .inr (h3 a ha)
    · rw [share_ne ha] at q
      exact m.new a o q
  · rcases get_set_slot h with ⟨rfl, x, hl⟩ | ⟨ne, h⟩
    · cases x
      exact ⟨v, h1, h2.rep m.sub _ fun _ z => z⟩
    · obtain ⟨w, q1, q2⟩ := m.sh j e' h
      exact ⟨w, q1, q2.mono (share_same m.sub _)⟩
  · rcases get_set_slot h with ⟨_, x, _⟩ | ⟨ne, h⟩
    · cases x
    · obtain ⟨⟨w, q1, q2⟩, q3⟩ := m.ow j t e' h
      refine ⟨⟨w, q1, q2.keep ⟨fun _ _ _ z => z, share_same m.sub _, fun a ha z => ?_⟩⟩, q3⟩
      rw [share_ne (m.ap j i t sp e' d (Ne.symm ne) h e a ha)]
      exact z
  · rcases get_set_slot q1 with ⟨_, x, _⟩ | ⟨_, q1⟩
    · cases x
    · rcases get_set_slot q2 with ⟨_, x, _⟩ | ⟨_, q2⟩
      · cases x
      · exact m.ap j k t u d' e' n q1 q2
end
end Mir
namespace Mir
open PySem PySem.Spec PyProof.Rows L2
variable [Tn]
theorem fill1Q {N : Nat} {Q : List Int × List Int → List Int → Prop} {f : D → Env → Oc} {x : List Int} (P : List ((List Int × List Int) × List Int) → Env → Prop) : ∀ {ys : List (List Int)} {L : List ((List Int × List Int) × List Int)} {r : Env}, L.length + ys.length ≤ N → ys.Nodup → (∀ y ∈ ys, (x, y) ∉ L.map (·.1)) →
    (∀ L, L.length < N → ∀ y ∈ ys, (x, y) ∉ L.map (·.1) → ∀ r, P L r → ∃ v r', Q (x, y) v ∧ f (tuI y) r = .nx r' ∧ P (setA L (x, y) v) r') → P L r →
    ∃ L' r', forD f (ys.map tuI) r = .nx r' ∧ P (L ++ L') r' ∧ L'.map (·.1) = ys.map (fun y => (x, y)) ∧ ∀ p ∈ L', Q p.1 p.2
  | [], L, r, _, _, _, _, hp => ⟨[], r, rfl, by simpa using hp, rfl, fun _ h => nomatch h⟩
  | y :: ys, L, r, hl, hn, hf, h, hp => by
    rw [List.length_cons] at hl
    rw [List.nodup_cons] at hn
    obtain ⟨v, r1, hv, e, p1⟩ := h L (by omega) y List.mem_cons_self (hf y List.mem_cons_self) r hp
    rw [setA_new v (hf y List.mem_cons_self)] at p1
    obtain ⟨L', r2, e2, p2, k2, v2⟩ := fill1Q P (L := L ++ [((x, y), v)]) (r := r1) (by simp; omega) hn.2 (fun z hz hm => by
      rw [List.map_append, List.mem_append] at hm
      rcases hm with m | m
      · exact hf z (List.mem_cons_of_mem _ hz) m
      · rw [List.map_cons, List.map_nil, List.mem_singleton] at m
        injection m with _ m
        exact hn.1 (m ▸ hz)) (fun L hL z hz => h L hL z (List.mem_cons_of_mem _ hz)) p1
    refine ⟨((x, y), v) :: L', r2, ?_, by simpa using p2, by simp [k2], fun p hq => ?_⟩
    · rw [List.map_cons, forD_cons, e]
      exact e2
    · rcases List.mem_cons.mp hq with z | z
      · subst z; exact hv
      · exact v2 p z
theorem fill2Q {N : Nat} {α : Type} {up : List Int} {Q : List Int × List Int → List Int → Prop} {outer inner : D → Env → Oc} (A : α → D) (kx : α → List Int) (P : List ((List Int × List Int) × List Int) → Env → Prop) (P' : List ((List Int × List Int) × List Int) → α → Env → Prop) : ∀ {X : List α} {L : List ((List Int × List Int) × List Int)} {r : Env}, L.length + X.length * (mems up).length ≤ N → (X.map kx).Nodup → (∀ a ∈ X, ∀ y ∈ mems up, (kx a, y) ∉ L.map (·.1)) →
    (∀ L, L.length < N → ∀ a ∈ X, ∀ y ∈ mems up, (kx a, y) ∉ L.map (·.1) → ∀ r, P' L a r → ∃ v r', Q (kx a, y) v ∧ inner (tuI y) r = .nx r' ∧ P' (setA L (kx a, y) v) a r') →
    (∀ L, ∀ a ∈ X, ∀ r, P L r → ∃ r1, P' L a r1 ∧ ∀ L' r2, forD inner ((mems up).map tuI) r1 = .nx r2 → P' L' a r2 → ∃ r3, outer (A a) r = .nx r3 ∧ P L' r3) → P L r →
    ∃ L' r', forD outer (X.map A) r = .nx r' ∧ P (L ++ L') r' ∧ L'.map (·.1) = X.flatMap (fun a => (mems up).map fun y => (kx a, y)) ∧ ∀ p ∈ L', Q p.1 p.2
  | [], L, r, _, _, _, _, _, hp => ⟨[], r, rfl, by simpa using hp, rfl, fun _ h => nomatch h⟩
  | a :: X, L, r, hl, hn, hf, hi, ho, hp => by
    rw [List.length_cons, Nat.succ_mul] at hl
    rw [List.map_cons, List.nodup_cons] at hn
    obtain ⟨r1, p1, q⟩ := ho L a List.mem_cons_self r hp
    obtain ⟨L1, r2, e1, p2, k1, v1⟩ := fill1Q (Q := Q) (f := inner) (x := kx a) (N := N) (fun L r => P' L a r) (by omega) (mems_nodup up) (hf a List.mem_cons_self) (fun L hL y hy hm r hr => hi L hL a List.mem_cons_self y hy hm r hr) p1
    obtain ⟨r3, e3, p3⟩ := q _ r2 e1 p2
    obtain ⟨L2, r4, e4, p4, k2, v2⟩ := fill2Q A kx P P' (X := X) (L := L ++ L1) (r := r3) (by have := congrArg List.length k1; rw [List.length_map, List.length_map] at this; rw [List.length_append]; omega) hn.2 (fun b hb y hy hm => by
      rw [List.map_append, List.mem_append] at hm
      rcases hm with m | m
      · exact hf b (List.mem_cons_of_mem _ hb) y hy m
      · rw [k1] at m
        obtain ⟨z, _, e⟩ := List.mem_map.mp m
        injection e with e _
        exact hn.1 (e ▸ List.mem_map.mpr ⟨b, hb, rfl⟩)) (fun L hL b hb => hi L hL b (List.mem_cons_of_mem _ hb)) (fun L b hb => ho L b (List.mem_cons_of_mem _ hb)) p3
    refine ⟨L1 ++ L2, r4, ?_, by simpa using p4, by simp [k1, k2], fun p hq => ?_⟩
    · rw [List.map_cons, forD_cons, e3]
      exact e4
    · rcases List.mem_append.mp hq with z | z
      · exact v1 p z
      · exact v2 p z
theorem byRule {α β : Type} {L : List (α × β)} {g : α → β} (h : ∀ p ∈ L, p.2 = g p.1) : L = (L.map (·.1)).map fun a => (a, g a) := by
  rw [List.map_map]
  have e : ∀ p ∈ L, ((fun a => (a, g a)) ∘ (·.1)) p = p := fun p hp => by
    show (p.1, g p.1) = p
    rw [← h p hp]
  rw [List.map_congr_left e]
  simp
noncomputable abbrev nnD (p : Nat × Nat) : D := .tup [.int p.1, .int p.2]
theorem keyNN : KeyE nnD (fun p => .tup [.num (p.1 : Nat), .num (p.2 : Nat)]) := ⟨fun p => keyII.t ((p.1 : Int), (p.2 : Int)), fun p q h => by
  have := keyII.inj ((p.1 : Int), (p.2 : Int)) ((q.1 : Int), (q.2 : Int)) h
  injection this with a b
  obtain ⟨p1, p2⟩ := p
  obtain ⟨q1, q2⟩ := q
  have a : (p1 : Int) = q1 := a
  have b : (p2 : Int) = q2 := b
  have a : p1 = q1 := by omega
  have b : p2 = q2 := by omega
  rw [a, b]⟩
theorem ixD_els {ps : List (List Int)} {k : Nat} (h : k < ps.length) : ixD (.lst (ps.map tuI)) (.int (k : Nat)) = .ok (tuI (ps.getD k [])) := by
  have e : ps[k]? = some (ps.getD k []) := by rw [List.getD_eq_getElem?_getD, List.getElem?_eq_getElem h]; rfl
  rw [ixD_lst, atI_nat _ _ (by simpa using h), List.getElem?_map, e]
  rfl
/-- the carry of the parts -/
noncomputable def carryV (lo up : List Int) (ps : List (List Int)) (L : List ((Nat × Nat) × List Int)) (x y : List Int) : List Int :=
  L.foldl (fun f q => putV lo f (timesV lo (x.getD q.1.1 0 * y.getD q.1.2 0) q.2)) ((List.range up.length).foldl (fun f k => if up.getD k 0 ≤ x.getD k 0 + y.getD k 0 then putV lo f (ps.getD k []) else f) (zeroV lo))
noncomputable def ownV (lo up : List Int) (hf : List Int → List Int) (x y : List Int) : List Int := putV lo (putV lo (hf x) (hf y)) (timesV lo (-1) (hf (putV up x y)))
/-- the pairs of places, the lesser first -/
noncomputable def placeRow (n i : Nat) : List (Nat × Nat) := (List.range (n - (i + 1))).map fun k => (i, i + 1 + k)
noncomputable def placePairs (n : Nat) : List (Nat × Nat) := (List.range n).flatMap (placeRow n)
theorem mem_placePairs {n : Nat} {p : Nat × Nat} : p ∈ placePairs n ↔ p.1 < p.2 ∧ p.2 < n := by
  unfold placePairs placeRow
  rw [List.mem_flatMap]
  constructor
  · rintro ⟨i, hi, h⟩
    obtain ⟨k, hk, rfl⟩ := List.mem_map.mp h
    have := List.mem_range.mp hk
    exact ⟨by show i < i + 1 + k; omega, by show i + 1 + k < n; omega⟩
  · rintro ⟨h1, h2⟩
    refine ⟨p.1, List.mem_range.mpr (by omega), List.mem_map.mpr ⟨p.2 - (p.1 + 1), List.mem_range.mpr (by omega), ?_⟩⟩
    obtain ⟨a, b⟩ := p
    have h1 : a < b := h1
    show (a, a + 1 + (b - (a + 1))) = (a, b)
    rw [Nat.add_sub_cancel' h1]
theorem placeRow_nodup (n i : Nat) : (placeRow n i).Nodup := by
  unfold placeRow
  refine nodup_inj (fun a b e => ?_) List.nodup_range
  injection e with _ e
  omega
/-- what carries are made of -/
structure OkP (lo up : List Int) (ps : List (List Int)) (L : List ((Nat × Nat) × List Int)) : Prop where
  len : ps.length = up.length
  ps : ∀ k, k < up.length → OkE lo (ps.getD k [])
  key : L.map (·.1) = placePairs up.length
  val : ∀ q ∈ L, OkE lo q.2
theorem OkP.at_ {lo up : List Int} {ps : List (List Int)} {L : List ((Nat × Nat) × List Int)} (h : OkP lo up ps L) {q : (Nat × Nat) × List Int} (hq : q ∈ L) : q.1.1 < q.1.2 ∧ q.1.2 < up.length := by
  have : q.1 ∈ placePairs up.length := by rw [← h.key]; exact List.mem_map.mpr ⟨q, hq, rfl⟩
  exact mem_placePairs.mp this
theorem placePairs_nodup (n : Nat) : (placePairs n).Nodup := by
  unfold placePairs
  refine nodup_flat (fun i _ => placeRow_nodup n i) ?_
  refine List.Pairwise.imp (R := fun a b => a ≠ b) (fun {a b} ne => ?_) List.nodup_range
  intro x hx hy
  unfold placeRow at hx hy
  obtain ⟨_, _, e1⟩ := List.mem_map.mp hx
  obtain ⟨_, _, e2⟩ := List.mem_map.mp hy
  rw [← e1] at e2
  exact ne (Prod.mk.inj e2).1.symm
end Mir
namespace Mir
open PySem PySem.Spec PyProof.Rows L2
variable [Tn]
noncomputable def enumS : List D → Res (List D)
  | [d] => match seqQ d with
    | some xs => .ok (enumL xs)
    | none => .bad
  | _ => .bad
@[simp] theorem enumS_lst (xs : List D) : enumS [.lst xs] = .ok (enumL xs) := rfl
@[simp] theorem enumS_tup (xs : List D) : enumS [.tup xs] = .ok (enumL xs) := rfl
@[simp] theorem enumS_scr (ns : List Int) : enumS [.scr ns] = .ok (enumL (ns.map D.int)) := rfl
end Mir
namespace Mir
variable [Tn]
/-- images that make a map -/
structure OkI (s g : List Int) (im : List (List Int)) : Prop where
  len : im.length = s.length
  el : ∀ y ∈ im, OkE g y
  nil : ∀ p ∈ s.zip im, timesV g p.1 p.2 = zeroV g
theorem el_of_mod {g x : List Int} (h : OkR g) (hl : x.length = g.length) (hm : ∀ i, i < g.length → ∃ z, x.getD i 0 = z % g.getD i 0) : OkE g x := by
  refine ⟨hl, fun p hp => ?_⟩
  obtain ⟨i, hi⟩ := List.getElem?_of_mem hp
  obtain ⟨g1, g2⟩ := List.getElem?_zip_eq_some.mp hi
  have hi' : i < g.length := (List.getElem?_eq_some_iff.mp g2).1
  obtain ⟨z, e⟩ := hm i hi'
  have t := h.get hi'
  have e1 : x.getD i 0 = p.1 := by rw [List.getD_eq_getElem?_getD, g1]; rfl
  have e2 : g.getD i 0 = p.2 := by rw [List.getD_eq_getElem?_getD, g2]; rfl
  rw [← e1, ← e2, e]
  exact ⟨Int.emod_nonneg _ (by omega), Int.emod_lt_of_pos _ (by omega)⟩
theorem times_el {g x : List Int} {n : Int} (h : OkR g) (hl : x.length = g.length) : OkE g (timesV g n x) := el_of_mod h (timesV_len g x n hl) fun i hi => ⟨_, timesV_at hi hl⟩
/-- the heads -/
noncomputable def headV (n at_ : Nat) : List Int := (List.range n).map fun k => if k = at_ then 1 else 0
theorem headV_at {n a i : Nat} (hi : i < n) : (headV n a).getD i 0 = if i = a then 1 else 0 := by
  unfold headV
  rw [List.getD_eq_getElem?_getD, List.getElem?_map, List.getElem?_range hi]
  rfl
theorem headV_len (n a : Nat) : (headV n a).length = n := by simp [headV]
theorem OkI.at_ {s g : List Int} {im : List (List Int)} (h : OkI s g im) {i : Nat} (hi : i < s.length) : OkE g (im.getD i []) ∧ timesV g (s.getD i 0) (im.getD i []) = zeroV g := by
  have e1 : s[i]? = some (s.getD i 0) := by rw [List.getD_eq_getElem?_getD, List.getElem?_eq_getElem hi]; rfl
  have e2 : im[i]? = some (im.getD i []) := by rw [List.getD_eq_getElem?_getD, List.getElem?_eq_getElem (by rw [h.len]; exact hi)]; rfl
  exact ⟨h.el _ (List.mem_of_getElem? e2), h.nil (s.getD i 0, im.getD i []) (List.mem_of_getElem? (List.getElem?_zip_eq_some.mpr ⟨e1, e2⟩))⟩
end Mir
namespace Mir
variable [Tn]
theorem el_mod {lo v : List Int} (h : OkE lo v) {p : Nat} (hp : p < lo.length) : v.getD p 0 % lo.getD p 0 = v.getD p 0 := by
  obtain ⟨a, b⟩ := h.get hp
  exact Int.emod_eq_of_lt a b
/-- the carries of parts and a relabeling -/
noncomputable def wholeV (lo up : List Int) (ps : List (List Int)) (L : List ((Nat × Nat) × List Int)) (hf : List Int → List Int) (x y : List Int) : List Int := putV lo (carryV lo up ps L x y) (ownV lo up hf x y)
/-- odd parts that both their rounds bring to nought -/
noncomputable def OkQ (lo up : List Int) (L : List ((Nat × Nat) × List Int)) : Prop := ∀ q ∈ L, timesV lo (up.getD q.1.1 0) q.2 = zeroV lo ∧ timesV lo (up.getD q.1.2 0) q.2 = zeroV lo
theorem putV_assoc {rs x y z : List Int} (h1 : x.length = rs.length) (h2 : y.length = rs.length) (h3 : z.length = rs.length) : putV rs (putV rs x y) z = putV rs x (putV rs y z) := by
  have l1 := putV_len h1 h2
  have l2 := putV_len h2 h3
  refine ext_getD (by rw [putV_len l1 h3, putV_len h1 l2]) fun i hi => ?_
  rw [putV_len h1 l2] at hi
  rw [putV_at hi l1 h3, putV_at hi h1 h2, putV_at hi h1 l2, putV_at hi h2 h3, Int.emod_add_emod, Int.add_emod_emod, Int.add_assoc]
theorem head_el {up : List Int} (h : OkR up) (i : Nat) : OkE up (headV up.length i) := el_of_mod h (headV_len _ _) fun j hj => by
  have t := h.get hj
  refine ⟨if j = i then 1 else 0, ?_⟩
  rw [headV_at hj]
  by_cases e : j = i
  · rw [if_pos e, Int.emod_eq_of_lt (by omega) (by omega)]
  · rw [if_neg e]; simp
theorem mul_head {up : List Int} {i j k : Nat} (hj : j < up.length) (hk : (k : Int) ≤ up.getD i 0) (g : OkR up) : (timesV up (k : Nat) (headV up.length i)).getD j 0 = if j = i then (k : Int) % up.getD i 0 else 0 := by
  rw [timesV_at hj (headV_len _ _), headV_at hj]
  by_cases e : j = i
  · subst e; simp
  · simp [e]
theorem times_nil {up : List Int} (g : OkR up) (i : Nat) (hi : i < up.length) : timesV up (up.getD i 0) (headV up.length i) = zeroV up := ext_getD (by rw [timesV_len up _ _ (headV_len _ _)]; simp [zeroV]) fun j hj => by
  have hj : j < up.length := by simpa [zeroV] using hj
  rw [zeroV_at, timesV_at hj (headV_len _ _), headV_at hj]
  by_cases e : j = i
  · subst e; simp
  · simp [e]
theorem fillKQ {κ : Type} [DecidableEq κ] {N : Nat} {α : Type} {Q : κ → List Int → Prop} {f : D → Env → Oc} (A : α → D) (kx : α → κ) (P : List (κ × List Int) → Env → Prop) : ∀ {X : List α} {L : List (κ × List Int)} {r : Env}, L.length + X.length ≤ N → (X.map kx).Nodup → (∀ a ∈ X, kx a ∉ L.map (·.1)) →
    (∀ L, L.length < N → ∀ a ∈ X, kx a ∉ L.map (·.1) → ∀ r, P L r → ∃ v r', Q (kx a) v ∧ f (A a) r = .nx r' ∧ P (setA L (kx a) v) r') → P L r →
    ∃ L' r', forD f (X.map A) r = .nx r' ∧ P (L ++ L') r' ∧ L'.map (·.1) = X.map kx ∧ ∀ p ∈ L', Q p.1 p.2
  | [], L, r, _, _, _, _, hp => ⟨[], r, rfl, by simpa using hp, rfl, fun _ h => nomatch h⟩
  | a :: X, L, r, hl, hn, hf, h, hp => by
    rw [List.length_cons] at hl
    rw [List.map_cons, List.nodup_cons] at hn
    obtain ⟨v, r1, hv, e, p1⟩ := h L (by omega) a List.mem_cons_self (hf a List.mem_cons_self) r hp
    rw [setA_new v (hf a List.mem_cons_self)] at p1
    obtain ⟨L', r2, e2, p2, k2, v2⟩ := fillKQ (Q := Q) A kx P (L := L ++ [(kx a, v)]) (r := r1) (by simp; omega) hn.2 (fun z hz hm => by
      rw [List.map_append, List.mem_append] at hm
      rcases hm with m | m
      · exact hf z (List.mem_cons_of_mem _ hz) m
      · rw [List.map_cons, List.map_nil, List.mem_singleton] at m
        have m : kx z = kx a := m
        exact hn.1 (m ▸ List.mem_map.mpr ⟨z, hz, rfl⟩)) (fun L hL z hz => h L hL z (List.mem_cons_of_mem _ hz)) p1
    refine ⟨(kx a, v) :: L', r2, ?_, by simpa using p2, by simp [k2], fun p hq => ?_⟩
    · rw [List.map_cons, forD_cons, e]
      exact e2
    · rcases List.mem_cons.mp hq with z | z
      · subst z; exact hv
      · exact v2 p z
theorem nil_snoc {rs x : List Int} {a n v : Int} (hl : x.length = rs.length) (h : timesV rs a x = zeroV rs) (hv : a * v % n = 0) : timesV (rs ++ [n]) a (x ++ [v]) = zeroV (rs ++ [n]) := by
  unfold timesV zeroV at *
  rw [List.zip_append hl, List.map_append, List.map_append, h]
  simp [hv]
theorem nil_nil (a : Int) : timesV [] a [] = zeroV [] := rfl
theorem back_times' {rs x : List Int} (hl : x.length = rs.length) : backV rs x = timesV rs (-1) x := ext_getD (by rw [backV_len hl, timesV_len rs x _ hl]) fun i hi => by
  have hi' : i < rs.length := by rw [timesV_len rs x _ hl] at hi; exact hi
  rw [backV_at hi' hl, timesV_at hi' hl]
  congr 1
  omega
theorem putV_comm {rs x y : List Int} (h1 : x.length = rs.length) (h2 : y.length = rs.length) : putV rs x y = putV rs y x := ext_getD (by rw [putV_len h1 h2, putV_len h2 h1]) fun i hi => by
  rw [putV_len h2 h1] at hi
  rw [putV_at hi h1 h2, putV_at hi h2 h1, Int.add_comm]
theorem put_zero {lo v : List Int} (h : OkE lo v) : putV lo v (zeroV lo) = v := by
  have lz : (zeroV lo).length = lo.length := by simp [zeroV]
  refine ext_getD (by rw [putV_len h.len lz, h.len]) fun i hi => ?_
  rw [h.len] at hi
  rw [putV_at hi h.len lz, zeroV_at, Int.add_zero, el_mod h hi]
theorem zero_times {lo : List Int} (s : Int) : timesV lo s (zeroV lo) = zeroV lo := by
  have lz : (zeroV lo).length = lo.length := by simp [zeroV]
  refine ext_getD (by rw [timesV_len lo _ s lz, lz]) fun i hi => ?_
  rw [lz] at hi
  rw [timesV_at hi lz, zeroV_at]
  simp
theorem own_zero {lo up x y : List Int} (gl : OkR lo) : ownV lo up (fun _ => zeroV lo) x y = zeroV lo := by
  unfold ownV
  rw [zero_times, put_zero (zero_el gl), put_zero (zero_el gl)]
theorem tabD_congr {lo up : List Int} {c e : List Int → List Int → List Int} (h : ∀ x y, OkE up x → OkE up y → c x y = e x y) : tabD lo up c = tabD lo up e := by
  unfold tabD
  have : (dicF pkD tuI (prs up) fun p => c p.1 p.2) = dicF pkD tuI (prs up) fun p => e p.1 p.2 := by
    show dicA pkD tuI ((prs up).map fun p => (p, c p.1 p.2)) = dicA pkD tuI ((prs up).map fun p => (p, e p.1 p.2))
    refine congrArg _ (List.map_congr_left fun p hp => ?_)
    obtain ⟨m1, m2⟩ := mem_prs.mp hp
    rw [h _ _ (mem_mems.mp m1) (mem_mems.mp m2)]
  rw [this]
end Mir
namespace Mir
open PySem PySem.Spec PyProof.Rows L2
variable [Tn]
section
variable {G : GC} {J : L2.St → Prop} {H0 F0 F1 H1 : Hp} {fp : Nat → List Addr} {σ : L2.St} {r : Env}
/-- and taken up again -/
theorem MS.take (hJ : ∀ σ, J σ) (m : MS G J H0 F0 fp F1 σ H1 r) {i : Nat} {v : V} {s : Shape} {o : D} (hv : σ[i]? = some (some v)) (ho : r[i]? = some (.ow s o)) {fp2 : Nat → List Addr} {F2 H2 : Hp} {σ2 : L2.St} {r2 : Env} (m2 : MS G (fun σ => σ[i]? = some (some v)) H1 F1 fp2 F2 σ2 H2 r2) :
    MS G J H0 F0 (fun j => if j = i then fp i else fp2 j) F2 σ2 H2 (r2.set i (.ow s o)) := by
  obtain ⟨⟨w, hw, ow⟩, fr⟩ := m.ow i s o ho
  rw [hv] at hw
  cases hw
  have th := fun a (ha : a ∈ fp i) => ow.there a ha
  have nf : ∀ a ∈ fp i, F2 a = none := fun a ha => by
    cases e : F2 a with
    | none => rfl
    | some u =>
      rcases m2.new a u e with z | z
      · have := (th a ha).1
        rw [this] at z; cases z
      · obtain ⟨u2, e2⟩ := (th a ha).2
        rw [z] at e2; cases e2
  have hi2 : ∀ a ∈ fp i, H1 a ≠ none := fun a ha z => by
    obtain ⟨u2, e2⟩ := (th a ha).2
    rw [z] at e2; cases e2
  refine ⟨hJ _, m.s0.trans m2.s0, m.f0.trans m2.f0, m2.sub, fun a u e => ?_, by simpa using m2.len, fun j d h => ?_, fun j t d h => ?_, fun j k t u d e ne h1 h2 => ?_, m.t0⟩
  · rcases m2.new a u e with z | z
    · exact m.new a u z
    · exact .inr (m.s0.free z)
  · rcases get_set_slot h with ⟨_, x, _⟩ | ⟨_, h⟩
    · cases x
    · exact m2.sh j d h
  · rcases get_set_slot h with ⟨e1, x, _⟩ | ⟨ne, h⟩
    · subst e1
      cases x
      refine ⟨⟨v, m2.jo, ?_⟩, ?_⟩
      · show Own G F2 H2 s v o (if i = i then fp i else fp2 i)
        rw [if_pos rfl]
        exact ow.keep ⟨fun a ha u e => m2.s0.at' a u e fun ps z => ow.nt a ha ps (z ▸ e), m2.f0, fun a ha _ => nf a ha⟩
      · show ∀ a ∈ (if i = i then fp i else fp2 i), H0 a = none
        rw [if_pos rfl]
        exact fr
    · have ne' : ¬ j = i := fun z => ne z.symm
      obtain ⟨⟨w, q1, q2⟩, q3⟩ := m2.ow j t d h
      refine ⟨⟨w, q1, ?_⟩, ?_⟩
      · show Own G F2 H2 t w d (if j = i then fp i else fp2 j)
        rw [if_neg ne']
        exact q2
      · show ∀ a ∈ (if j = i then fp i else fp2 j), H0 a = none
        rw [if_neg ne']
        exact fun a ha => m.s0.free (q3 a ha)
  · show ∀ a ∈ (if j = i then fp i else fp2 j), a ∉ (if k = i then fp i else fp2 k)
    rcases get_set_slot h1 with ⟨e1, _, _⟩ | ⟨n1, h1⟩
    · subst e1
      rcases get_set_slot h2 with ⟨e2, _, _⟩ | ⟨n2, h2⟩
      · exact absurd e2 ne
      · have n2' : ¬ k = i := fun z => n2 z.symm
        rw [if_pos rfl, if_neg n2']
        exact fun a ha hb => hi2 a ha ((m2.ow k u e h2).2 a hb)
    · have n1' : ¬ j = i := fun z => n1 z.symm
      rw [if_neg n1']
      rcases get_set_slot h2 with ⟨e2, _, _⟩ | ⟨n2, h2⟩
      · subst e2
        rw [if_pos rfl]
        exact fun a ha hb => hi2 a hb ((m2.ow j t d h1).2 a ha)
      · have n2' : ¬ k = i := fun z => n2 z.symm
        rw [if_neg n2']
        exact m2.ap j k t u d e ne h1 h2
end
section
variable {X : Cx} {W : Wi} {k : Kd}
noncomputable abbrev Wi.pin (W : Wi) (i : Nat) (v : V) : Wi := ⟨W.w, fun σ => σ[i]? = some (some v)⟩
end
end Mir
namespace Mir
open PySem PySem.Spec PyProof.Rows L2
variable [Tn]
noncomputable def slotS : Shape → D → Slot
  | .sh, d => .sh d
  | s, d => .ow s d
noncomputable def nameO (i : Nat) (s : Shape) (d : D) (r : Env) : Res Env := .ok (r.set i (slotS s d))
@[simp] theorem nameO_sh (i : Nat) (d : D) (r : Env) : nameO i .sh d r = .ok (r.set i (.sh d)) := rfl
@[simp] theorem nameO_flat (i : Nat) (d : D) (r : Env) : nameO i .flat d r = .ok (r.set i (.ow .flat d)) := rfl
end Mir
namespace Mir
open PySem PySem.Spec PyProof.Rows L2
variable [Tn]
noncomputable def IsTI (h : Heap) (v : Value) (ns : List Int) : Prop := ∃ a o items n, v = Value.ref a ∧ h.get? a = some o ∧ o.cls = .type "tuple" ∧ o.data = .seq items n ∧ IntsAre items.toList ns
theorem IsTI.keeps {h h' : Heap} {v : Value} {ns : List Int} (p : IsTI h v ns) (k : ∀ b o, h.get? b = some o → o.cls = .type "tuple" → h'.get? b = some o) : IsTI h' v ns := by
  obtain ⟨a, o, t, n, e, ho, hc, hd, hi⟩ := p
  exact ⟨a, o, t, n, e, k _ _ ho hc, hc, hd, hi⟩
end Mir
namespace Mir
open PySem PySem.Spec PyProof.Rows L2
variable [Tn]
noncomputable def lt2 : List (List Int) → List (List Int) → Bool
  | [], [] => false
  | [], _ :: _ => true
  | _ :: _, [] => false
  | x :: xs, y :: ys => if x = y then lt2 xs ys else HT.lexLt x y
/-- the items of vs hold the rows ks -/
inductive AllTI (h : Heap) : List Value → List (List Int) → Prop
  | nil : AllTI h [] []
  | cons {v : Value} {k : List Int} {vs : List Value} {ks : List (List Int)} : IsTI h v k → AllTI h vs ks → AllTI h (v :: vs) (k :: ks)
theorem AllTI.len {h : Heap} : ∀ {vs : List Value} {ks : List (List Int)}, AllTI h vs ks → vs.length = ks.length
  | _, _, .nil => rfl
  | _, _, .cons _ t => by rw [List.length_cons, List.length_cons, t.len]
theorem AllTI.keeps {h h' : Heap} (k : ∀ b o, h.get? b = some o → o.cls = .type "tuple" → h'.get? b = some o) : ∀ {vs : List Value} {ks : List (List Int)}, AllTI h vs ks → AllTI h' vs ks
  | _, _, .nil => .nil
  | _, _, .cons a t => .cons (a.keeps k) (t.keeps k)
noncomputable def IsTT (h : Heap) (v : Value) (ks : List (List Int)) : Prop := ∃ a o items n, v = Value.ref a ∧ h.get? a = some o ∧ o.cls = .type "tuple" ∧ o.data = .seq items n ∧ AllTI h items.toList ks
theorem IsTT.keeps {h h' : Heap} {v : Value} {ks : List (List Int)} (p : IsTT h v ks) (k : ∀ b o, h.get? b = some o → o.cls = .type "tuple" → h'.get? b = some o) : IsTT h' v ks := by
  obtain ⟨a, o, t, n, e, ho, hc, hd, hi⟩ := p
  exact ⟨a, o, t, n, e, k _ _ ho hc, hc, hd, hi.keeps k⟩
end Mir
namespace Mir
open PySem PySem.Spec PyProof.Rows L2
variable [Tn]
theorem set_len (x : List Int) (i : Nat) (k : Int) : (x.set i k).length = x.length := List.length_set
theorem set_at {x : List Int} {i j : Nat} {k : Int} (hi : i < x.length) : (x.set i k).getD j 0 = if j = i then k else x.getD j 0 := by
  rw [List.getD_eq_getElem?_getD, List.getElem?_set]
  by_cases h : i = j
  · subst h
    rw [if_pos rfl, if_pos hi, if_pos rfl]
    rfl
  · rw [if_neg h, if_neg (fun z => h z.symm), List.getD_eq_getElem?_getD]
theorem set_el {up x : List Int} {i : Nat} {k : Int} (hx : OkE up x) (hi : i < up.length) (h0 : 0 ≤ k) (h1 : k < up.getD i 0) : OkE up (x.set i k) := by
  have hl := hx.len
  refine ⟨by rw [set_len, hl], fun p hp => ?_⟩
  obtain ⟨j, hj, e⟩ := List.getElem_of_mem hp
  rw [List.length_zip, set_len, hl] at hj
  have hj' : j < up.length := by omega
  rw [List.getElem_zip] at e
  have e1 : p.1 = (x.set i k).getD j 0 := by
    rw [← e, List.getD_eq_getElem?_getD, List.getElem?_eq_getElem (by rw [set_len]; omega)]
    rfl
  have e2 : p.2 = up.getD j 0 := by
    rw [← e, List.getD_eq_getElem?_getD, List.getElem?_eq_getElem hj']
    rfl
  rw [e1, e2, set_at (by omega)]
  split
  · rename_i q; subst q; exact ⟨h0, h1⟩
  · exact hx.get hj'
theorem set_same {x : List Int} {i : Nat} (hi : i < x.length) : x.set i (x.getD i 0) = x := ext_getD (set_len _ _ _) fun j hj => by
  rw [set_at hi]
  split
  · rename_i q; rw [q]
  · rfl
theorem set_set (x : List Int) (i : Nat) (k l : Int) : (x.set i k).set i l = x.set i l := by simp
/-- one more at the i-th place -/
theorem set_head {up x : List Int} {i : Nat} {k : Int} (g : OkR up) (hx : OkE up x) (hi : i < up.length) (h0 : 0 ≤ k) (h1 : k + 1 < up.getD i 0) : putV up (x.set i k) (headV up.length i) = x.set i (k + 1) := by
  have hl := hx.len
  have l1 : (x.set i k).length = up.length := by rw [set_len, hl]
  refine ext_getD (by rw [putV_len l1 (headV_len _ _), set_len, hl]) fun j hj => ?_
  rw [set_len, hl] at hj
  rw [putV_at hj l1 (headV_len _ _), set_at (by omega), set_at (by omega), headV_at hj]
  by_cases q : j = i
  · subst q
    rw [if_pos rfl, if_pos rfl, if_pos rfl, Int.emod_eq_of_lt (by omega) h1]
  · rw [if_neg q, if_neg q, if_neg q]
    have := hx.get hj
    rw [Int.emod_eq_of_lt (by omega) (by omega)]
    omega
/-- so many at the i-th place -/
theorem set_heads {up x : List Int} {i k : Nat} (g : OkR up) (hx : OkE up x) (hi : i < up.length) (hz : x.getD i 0 = 0) (h1 : (k : Int) < up.getD i 0) : putV up x (timesV up (k : Nat) (headV up.length i)) = x.set i (k : Nat) := by
  have hl := hx.len
  have tl := timesV_len up (headV up.length i) (k : Nat) (headV_len _ _)
  refine ext_getD (by rw [putV_len hl tl, set_len, hl]) fun j hj => ?_
  rw [set_len, hl] at hj
  rw [putV_at hj hl tl, set_at (by omega), mul_head hj (by omega) g]
  have := hx.get hj
  by_cases q : j = i
  · subst q
    rw [if_pos rfl, if_pos rfl, hz, Int.zero_add, Int.emod_emod_of_dvd _ (Int.dvd_refl _), Int.emod_eq_of_lt (by omega) h1]
  · rw [if_neg q, if_neg q, Int.add_zero, Int.emod_eq_of_lt this.1 this.2]
noncomputable abbrev Cg (m a b : Int) : Prop := ∃ q, a = b + m * q
/-- what is known of two carries' difference and the labels, at one place -/
structure LabC (up : List Int) (m : Int) (d : List Int → List Int → Int) (H : List Int → Int) (lab : Nat → Int) : Prop where
  coc : ∀ x y z, OkE up x → OkE up y → OkE up z → Cg m (d x y + d (putV up x y) z) (d y z + d x (putV up y z))
  h0 : Cg m (H (zeroV up)) (d (zeroV up) (zeroV up))
  hs : ∀ i x, i < up.length → OkE up x → (∀ j, i < j → x.getD j 0 = 0) → x.getD i 0 + 1 < up.getD i 0 → Cg m (H (putV up x (headV up.length i))) (H x + lab i - d x (headV up.length i))
  wt : ∀ i, i < up.length → Cg m (up.getD i 0 * lab i) (((List.range (up.getD i 0).toNat).map fun k : Nat => d (timesV up (k : Nat) (headV up.length i)) (headV up.length i)).sum)
  od : ∀ i j, i < j → j < up.length → Cg m (d (headV up.length i) (headV up.length j)) (d (headV up.length j) (headV up.length i))
section
variable {up : List Int} {m : Int} {d : List Int → List Int → Int} {H : List Int → Int} {lab : Nat → Int}
noncomputable def dfD (up : List Int) (d : List Int → List Int → Int) (H : List Int → Int) (x y : List Int) : Int := d x y - (H x + H y - H (putV up x y))
theorem LabC.D_coc (L : LabC up m d H lab) (g : OkR up) {x y z : List Int} (hx : OkE up x) (hy : OkE up y) (hz : OkE up z) : Cg m (dfD up d H x y + dfD up d H (putV up x y) z) (dfD up d H y z + dfD up d H x (putV up y z)) := by
  obtain ⟨q, e⟩ := L.coc x y z hx hy hz
  refine ⟨q, ?_⟩
  unfold dfD
  rw [putV_assoc hx.len hy.len hz.len]
  omega
theorem put0 {x : List Int} (hx : OkE up x) : putV up x (zeroV up) = x := put_zero hx
theorem put0l {x : List Int} (g : OkR up) (hx : OkE up x) : putV up (zeroV up) x = x := by rw [putV_comm (zero_el g).len hx.len, put_zero hx]
theorem LabC.D00 (L : LabC up m d H lab) (g : OkR up) : Cg m (dfD up d H (zeroV up) (zeroV up)) 0 := by
  obtain ⟨q, e⟩ := L.h0
  refine ⟨-q, ?_⟩
  unfold dfD
  rw [put0 (zero_el g), Int.mul_neg]
  omega
theorem LabC.D0y (L : LabC up m d H lab) (g : OkR up) {y : List Int} (hy : OkE up y) : Cg m (dfD up d H (zeroV up) y) 0 := by
  have z := zero_el g
  obtain ⟨q, e⟩ := L.D_coc g z z hy
  obtain ⟨q2, e2⟩ := L.D00 g
  rw [put0 z, put0l g hy] at e
  refine ⟨q2 - q, ?_⟩
  rw [Int.mul_sub]
  omega
theorem LabC.Dx0 (L : LabC up m d H lab) (g : OkR up) {x : List Int} (hx : OkE up x) : Cg m (dfD up d H x (zeroV up)) 0 := by
  have z := zero_el g
  obtain ⟨q, e⟩ := L.D_coc g hx z z
  obtain ⟨q2, e2⟩ := L.D00 g
  rw [put0 z, put0 hx] at e
  refine ⟨q2 + q, ?_⟩
  rw [Int.mul_add]
  omega
theorem LabC.H_head (L : LabC up m d H lab) (g : OkR up) {i : Nat} (hi : i < up.length) : Cg m (H (headV up.length i)) (lab i) := by
  have z := zero_el g
  have he := head_el g i
  have n2 := g.get hi
  obtain ⟨q, e⟩ := L.hs i (zeroV up) hi z (fun j _ => zeroV_at up j) (by rw [zeroV_at]; omega)
  obtain ⟨q2, e2⟩ := L.D0y g he
  rw [put0l g he] at e
  unfold dfD at e2
  rw [put0l g he] at e2
  refine ⟨q - q2, ?_⟩
  rw [Int.mul_sub]
  omega
/-- the places behind i are nought -/
noncomputable def Low (i : Nat) (x : List Int) : Prop := ∀ j, i < j → x.getD j 0 = 0
theorem LabC.step1 (L : LabC up m d H lab) (g : OkR up) {i : Nat} (hi : i < up.length) {x : List Int} (hx : OkE up x) (hl : Low i x) (h : x.getD i 0 + 1 < up.getD i 0) : Cg m (dfD up d H x (headV up.length i)) 0 := by
  obtain ⟨q, e⟩ := L.hs i x hi hx hl h
  obtain ⟨q2, e2⟩ := L.H_head g hi
  refine ⟨q - q2, ?_⟩
  unfold dfD
  rw [e, e2, Int.mul_sub]
  omega
theorem low_zero (i : Nat) : Low i (zeroV up) := fun j _ => zeroV_at up j
theorem low_set {x : List Int} {i : Nat} {k : Int} (hi : i < x.length) (h : Low i x) : Low i (x.set i k) := fun j hj => by
  rw [set_at hi, if_neg (by omega)]
  exact h j hj
theorem LabC.sums (L : LabC up m d H lab) (g : OkR up) {i : Nat} (hi : i < up.length) : ∀ k : Nat, (k : Int) < up.getD i 0 → Cg m (H ((zeroV up).set i (k : Nat)))
    (H (zeroV up) + (k : Nat) * lab i - ((List.range k).map fun k : Nat => d (timesV up (k : Nat) (headV up.length i)) (headV up.length i)).sum)
  | 0, _ => by
    have e : (zeroV up).set i ((0 : Nat) : Int) = zeroV up := by
      have := set_same (x := zeroV up) (i := i) (by unfold zeroV; simpa using hi)
      rw [zeroV_at] at this
      exact this
    rw [e]
    exact ⟨0, by simp⟩
  | k + 1, hk => by
    have z := zero_el g
    have zl : i < (zeroV up).length := by rw [z.len]; exact hi
    obtain ⟨q, e⟩ := LabC.sums L g hi k (by omega)
    have hx := set_el z hi (k := (k : Nat)) (by omega) (by omega)
    obtain ⟨q2, e2⟩ := L.hs i _ hi hx (low_set zl (low_zero i)) (by rw [set_at zl, if_pos rfl]; omega)
    rw [set_head g z hi (by omega) (by omega)] at e2
    have sh := set_heads (k := k) g z hi (zeroV_at up i) (by omega)
    rw [put0l g (times_el g (headV_len _ _))] at sh
    refine ⟨q2 + q, ?_⟩
    rw [List.range_succ, List.map_append, List.sum_append]
    simp only [List.map_cons, List.map_nil, List.sum_cons, List.sum_nil]
    rw [sh]
    show H ((zeroV up).set i ((k + 1 : Nat) : Int)) = _
    rw [show ((k + 1 : Nat) : Int) = (k : Int) + 1 by omega, e2, e, Int.mul_add, Int.add_mul]
    simp
    omega
/-- the last turn round -/
theorem LabC.wrap0 (L : LabC up m d H lab) (g : OkR up) {i : Nat} (hi : i < up.length) : Cg m (dfD up d H ((zeroV up).set i (up.getD i 0 - 1)) (headV up.length i)) 0 := by
  have z := zero_el g
  have n2 := g.get hi
  obtain ⟨n, hn⟩ : ∃ n : Nat, up.getD i 0 = (n : Int) + 1 := ⟨(up.getD i 0 - 1).toNat, by omega⟩
  obtain ⟨q, e⟩ := L.sums g hi n (by omega)
  obtain ⟨q2, e2⟩ := L.wt i hi
  obtain ⟨q3, e3⟩ := L.H_head g hi
  have sh := set_heads (k := n) g z hi (zeroV_at up i) (by omega)
  rw [put0l g (times_el g (headV_len _ _))] at sh
  have e4 : up.getD i 0 - 1 = (n : Int) := by omega
  have tn : (up.getD i 0).toNat = n + 1 := by omega
  rw [tn, List.range_succ, List.map_append, List.sum_append] at e2
  simp only [List.map_cons, List.map_nil, List.sum_cons, List.sum_nil] at e2
  rw [sh, hn, Int.add_mul] at e2
  have back : putV up ((zeroV up).set i (n : Int)) (headV up.length i) = zeroV up := by
    rw [← sh, times_succ (headV_len _ _), show ((n + 1 : Nat) : Int) = up.getD i 0 by omega, times_nil g i hi]
  rw [e4]
  unfold dfD
  rw [back]
  refine ⟨-q2 - q - q3, ?_⟩
  rw [Int.mul_sub, Int.mul_sub, Int.mul_neg, e, e3]
  omega
theorem LabC.base (L : LabC up m d H lab) (g : OkR up) {i : Nat} (hi : i < up.length) {b : List Int} (hb : OkE up b) (hl : Low i b) (h0 : b.getD i 0 = 0) : ∀ k : Nat, (k : Int) < up.getD i 0 → Cg m (dfD up d H b ((zeroV up).set i (k : Nat))) 0
  | 0, _ => by
    have e : (zeroV up).set i ((0 : Nat) : Int) = zeroV up := by
      have := set_same (x := zeroV up) (i := i) (by unfold zeroV; simpa using hi)
      rw [zeroV_at] at this
      exact this
    rw [e]
    exact L.Dx0 g hb
  | k + 1, hk => by
    have z := zero_el g
    have bl : i < b.length := by rw [hb.len]; exact hi
    have zl : i < (zeroV up).length := by rw [z.len]; exact hi
    obtain ⟨q, e⟩ := LabC.base L g hi hb hl h0 k (by omega)
    have hx := set_el z hi (k := (k : Nat)) (by omega) (by omega)
    obtain ⟨q2, e2⟩ := L.D_coc g hb hx (head_el g i)
    have sh := set_heads (k := k) g z hi (zeroV_at up i) (by omega)
    rw [put0l g (times_el g (headV_len _ _))] at sh
    have sb := set_heads (k := k) g hb hi h0 (by omega)
    have eb : putV up b ((zeroV up).set i (k : Nat)) = b.set i (k : Nat) := by rw [← sh]; exact sb
    rw [eb, set_head g z hi (by omega) (by omega)] at e2
    have bk := set_el hb hi (k := (k : Nat)) (by omega) (by omega)
    obtain ⟨q3, e3⟩ := L.step1 g hi bk (low_set bl hl) (by rw [set_at bl, if_pos rfl]; omega)
    obtain ⟨q4, e4⟩ := L.step1 g hi hx (low_set zl (low_zero i)) (by rw [set_at zl, if_pos rfl]; omega)
    show Cg m (dfD up d H b ((zeroV up).set i ((k + 1 : Nat) : Int))) 0
    rw [show ((k + 1 : Nat) : Int) = (k : Int) + 1 by omega]
    refine ⟨q + q3 - q4 - q2, ?_⟩
    rw [Int.mul_sub, Int.mul_sub, Int.mul_add]
    omega
/-- by a head whose place is the last -/
theorem LabC.S (L : LabC up m d H lab) (g : OkR up) {i : Nat} (hi : i < up.length) {x : List Int} (hx : OkE up x) (hl : Low i x) : Cg m (dfD up d H x (headV up.length i)) 0 := by
  have n2 := g.get hi
  have z := zero_el g
  obtain ⟨x0, x1⟩ := hx.get hi
  have xl : i < x.length := by rw [hx.len]; exact hi
  by_cases h : x.getD i 0 + 1 < up.getD i 0
  · exact L.step1 g hi hx hl h
  · obtain ⟨n, hn⟩ : ∃ n : Nat, x.getD i 0 = (n : Int) := ⟨(x.getD i 0).toNat, by omega⟩
    have hb := set_el hx hi (k := 0) (by omega) (by omega)
    have b0 : (x.set i 0).getD i 0 = 0 := by rw [set_at xl, if_pos rfl]
    have bl := low_set (k := 0) xl hl
    obtain ⟨q, e⟩ := L.base g hi hb bl b0 n (by omega)
    have sh := set_heads (k := n) g z hi (zeroV_at up i) (by omega)
    rw [put0l g (times_el g (headV_len _ _))] at sh
    have zx := set_el z hi (k := (n : Nat)) (by omega) (by omega)
    obtain ⟨q2, e2⟩ := L.D_coc g hb zx (head_el g i)
    have sb := set_heads (k := n) g hb hi b0 (by omega)
    have eb : putV up (x.set i 0) ((zeroV up).set i (n : Nat)) = x := by rw [← sh, sb, set_set, ← hn, set_same xl]
    have back : putV up ((zeroV up).set i (n : Int)) (headV up.length i) = zeroV up := by
      rw [← sh, times_succ (headV_len _ _), show ((n + 1 : Nat) : Int) = up.getD i 0 by omega, times_nil g i hi]
    obtain ⟨q3, e3⟩ := L.wrap0 g hi
    rw [show up.getD i 0 - 1 = (n : Int) by omega] at e3
    obtain ⟨q4, e4⟩ := L.Dx0 g hb
    rw [eb, back] at e2
    refine ⟨q2 + q3 + q4 - q, ?_⟩
    rw [Int.mul_sub, Int.mul_add, Int.mul_add]
    omega
theorem low_head {i j : Nat} (h : i ≤ j) : Low j (headV up.length i) := fun k hk => by
  by_cases q : k < up.length
  · rw [headV_at q, if_neg (by omega)]
  · rw [List.getD_eq_getElem?_getD, List.getElem?_eq_none (by rw [headV_len]; omega)]
    rfl
theorem LabC.heads2 (L : LabC up m d H lab) (g : OkR up) {i j : Nat} (hij : i < j) (hj : j < up.length) : Cg m (dfD up d H (headV up.length i) (headV up.length j)) 0 ∧ Cg m (dfD up d H (headV up.length j) (headV up.length i)) 0 := by
  obtain ⟨q, e⟩ := L.S g hj (head_el g i) (low_head (by omega))
  refine ⟨⟨q, e⟩, ?_⟩
  obtain ⟨q2, e2⟩ := L.od i j hij hj
  unfold dfD at e ⊢
  refine ⟨q - q2, ?_⟩
  rw [putV_comm (headV_len _ _) (headV_len _ _), Int.mul_sub]
  omega
theorem low_put {x y : List Int} {j : Nat} (g : OkR up) (hx : OkE up x) (hy : OkE up y) (h1 : Low j x) (h2 : Low j y) : Low j (putV up x y) := fun k hk => by
  by_cases q : k < up.length
  · rw [putV_at q hx.len hy.len, h1 k hk, h2 k hk]
    simp
  · rw [List.getD_eq_getElem?_getD, List.getElem?_eq_none (by rw [putV_len hx.len hy.len]; omega)]
    rfl
/-- by a head, whatever stands behind it -/
theorem LabC.T (L : LabC up m d H lab) (g : OkR up) {i : Nat} (hi : i < up.length) : ∀ j : Nat, i ≤ j → j < up.length → ∀ (n : Nat) (x : List Int), OkE up x → Low j x → x.getD j 0 = (n : Int) → Cg m (dfD up d H x (headV up.length i)) 0 := by
  intro j
  induction j with
  | zero =>
    intro hij hj n x hx hl _
    have : i = 0 := by omega
    subst this
    exact L.S g hi hx hl
  | succ j ih =>
    intro hij hj n
    by_cases q : i = j + 1
    · subst q
      intro x hx hl _
      exact L.S g hi hx hl
    · induction n with
      | zero =>
        intro x hx hl h0
        refine ih (by omega) (by omega) (x.getD j 0).toNat x hx (fun k hk => ?_) ?_
        · by_cases r : k = j + 1
          · subst r; exact h0
          · exact hl k (by omega)
        · have := hx.get (i := j) (by omega)
          omega
      | succ n ihn =>
        intro x hx hl hn
        have xl : j + 1 < x.length := by rw [hx.len]; exact hj
        have xb := hx.get hj
        have hx' := set_el hx hj (k := (n : Int)) (by omega) (by omega)
        have l' := low_set (k := (n : Int)) xl hl
        have a0 := ihn _ hx' l' (by rw [set_at xl, if_pos rfl])
        have hj1 := head_el g (j + 1)
        have hi1 := head_el g i
        obtain ⟨q1, e1⟩ := a0
        obtain ⟨q2, e2⟩ := L.D_coc g hx' hj1 hi1
        obtain ⟨q3, e3⟩ := L.D_coc g hx' hi1 hj1
        obtain ⟨q4, e4⟩ := L.S g hj hx' l'
        obtain ⟨q5, e5⟩ := L.S g hj (put_el g hx'.len hi1.len) (low_put g hx' hi1 l' (low_head (by omega)))
        obtain ⟨⟨q6, e6⟩, q7, e7⟩ := L.heads2 g (i := i) (j := j + 1) (by omega) hj
        rw [set_head g hx hj (by omega) (by omega), show (n : Int) + 1 = x.getD (j + 1) 0 by omega, set_same xl, putV_comm hj1.len hi1.len] at e2
        refine ⟨q2 - q4 + q7 + q1 + q5 - q6 - q3, ?_⟩
        simp only [Int.mul_sub, Int.mul_add]
        omega
theorem LabC.all_heads (L : LabC up m d H lab) (g : OkR up) {i : Nat} (hi : i < up.length) {x : List Int} (hx : OkE up x) : Cg m (dfD up d H x (headV up.length i)) 0 := by
  have hn : up.length - 1 < up.length := by omega
  refine L.T g hi (up.length - 1) (by omega) hn (x.getD (up.length - 1) 0).toNat x hx (fun j hj => ?_) (by have := hx.get hn; omega)
  rw [List.getD_eq_getElem?_getD, List.getElem?_eq_none (by rw [hx.len]; omega)]
  rfl
theorem sum_set : ∀ (x : List Int) (i : Nat) (k : Int), i < x.length → (x.set i k).sum = x.sum - x.getD i 0 + k
  | [], _, _, h => by simp at h
  | a :: x, 0, k, _ => by simp; omega
  | a :: x, i + 1, k, h => by
    have := sum_set x i k (by simpa using h)
    simp at this ⊢
    omega
/-- .. and so by all -/
theorem LabC.all (L : LabC up m d H lab) (g : OkR up) : ∀ (n : Nat) (y : List Int), OkE up y → y.sum = (n : Int) → ∀ x, OkE up x → Cg m (dfD up d H x y) 0 := by
  intro n
  induction n with
  | zero =>
    intro y hy hs x hx
    have e : y = zeroV up := by
      refine ext_getD (by rw [hy.len]; unfold zeroV; simp) fun i hi => ?_
      rw [zeroV_at]
      have hi : i < up.length := by unfold zeroV at hi; simpa using hi
      by_cases q : y.getD i 0 = 0
      · exact q
      · have nn : ∀ z : List Int, (∀ i, i < z.length → 0 ≤ z.getD i 0) → 0 ≤ z.sum := fun z => by
          induction z with
          | nil => intro _; simp
          | cons a z ih =>
            intro h
            have h0 := h 0 (by simp)
            have h1 := ih fun i hi => by have := h (i + 1) (by simpa using hi); simpa using this
            simp at h0 ⊢
            omega
        have yl : i < y.length := by rw [hy.len]; exact hi
        have p := nn (y.set i 0) fun j hj => by
          rw [set_at yl]
          split
          · omega
          · rw [set_len] at hj
            exact (hy.get (by rw [← hy.len]; exact hj)).1
        rw [sum_set y i 0 yl] at p
        have := hy.get hi
        omega
    rw [e]
    exact L.Dx0 g hx
  | succ n ih =>
    intro y hy hs x hx
    obtain ⟨i, hi, h1⟩ : ∃ i, i < up.length ∧ 1 ≤ y.getD i 0 := by
      by_cases q : ∃ i, i < up.length ∧ 1 ≤ y.getD i 0
      · exact q
      · exfalso
        have np : ∀ z : List Int, (∀ i, i < z.length → z.getD i 0 ≤ 0) → z.sum ≤ 0 := fun z => by
          induction z with
          | nil => intro _; simp
          | cons a z ih =>
            intro h
            have h0 := h 0 (by simp)
            have h1 := ih fun i hi => by have := h (i + 1) (by simpa using hi); simpa using this
            simp at h0 ⊢
            omega
        have := np y fun i hi => by
          by_cases r : 1 ≤ y.getD i 0
          · exact absurd ⟨i, by rw [← hy.len]; exact hi, r⟩ q
          · omega
        omega
    have yl : i < y.length := by rw [hy.len]; exact hi
    have yb := hy.get hi
    have hy' := set_el hy hi (k := y.getD i 0 - 1) (by omega) (by omega)
    obtain ⟨q1, e1⟩ := ih _ hy' (by rw [sum_set y i _ yl]; omega) x hx
    obtain ⟨q2, e2⟩ := L.D_coc g hx hy' (head_el g i)
    obtain ⟨q3, e3⟩ := L.all_heads g hi (put_el g hx.len hy'.len)
    obtain ⟨q4, e4⟩ := L.all_heads g hi hy'
    rw [set_head g hy hi (by omega) (by omega), show y.getD i 0 - 1 + 1 = y.getD i 0 by omega, set_same yl] at e2
    refine ⟨q1 + q3 - q4 - q2, ?_⟩
    simp only [Int.mul_sub, Int.mul_add]
    omega
end
end Mir
namespace Mir
open PySem PySem.Spec PyProof.Rows L2
variable [Tn]
noncomputable abbrev ZRec (h : Heap) (z TI TO : Addr) (f0 f1 : Value) : Prop :=
  h.get? z = some { cls := .type "zip", dict := none, data := .fields #[f0, f1, .bool false, .ref TI, .ref TO], slots := #[] }
section
variable {prog : Program} {w : World} {A : Around} {E : Value → Shared → Prop} {s : Shared}
/-- a zip between two turns: nothing given out, or a tuple that is still there or gone -/
noncomputable def ZSt (h : Heap) (z TI TO : Addr) : Prop := ZRec h z TI TO .none (.bool false) ∨ ∃ (T : Addr) (f : Bool), ZRec h z TI TO (rawInt T) (.bool f)
end
end Mir
namespace Mir
open PySem PySem.Spec PyProof.Rows L2
variable [Tn]
/-- what a turn of the zip leaves -/
structure ZAll (h : Heap) (z TI TO i1 i2 l1 l2 : Addr) (k1 k2 : Bool) (p : Nat) : Prop where
  st : ZSt h z TI TO
  ti : IsT h TI #[.ref i1, .ref i2]
  to_ : ∃ o1 o2 : Value, IsT h TO #[o1, o2]
  n1 : SIt h k1 i1 l1 p
  n2 : SIt h k2 i2 l2 p
theorem ZSt.at {h h' : Heap} {z TI TO : Addr} (x : ZSt h z TI TO) (f : ∀ o, h.get? z = some o → h'.get? z = some o) : ZSt h' z TI TO := by
  rcases x with x | ⟨T, g, x⟩
  · exact .inl (f _ x)
  · exact .inr ⟨T, g, f _ x⟩
theorem ZSt.ob {h : Heap} {z TI TO : Addr} (x : ZSt h z TI TO) : ∃ o, h.get? z = some o ∧ ∀ v, o.data ≠ .cell v := by
  rcases x with x | ⟨T, g, x⟩
  · exact ⟨_, x, fun v q => nomatch q⟩
  · exact ⟨_, x, fun v q => nomatch q⟩
theorem ZSt.lt {h : Heap} {z TI TO : Addr} (x : ZSt h z TI TO) : z < h.objs.size := let ⟨_, e, _⟩ := x.ob; Heap.lt_size e
section
variable {h h' : Heap} {z TI TO i1 i2 l1 l2 : Addr} {k1 k2 : Bool} {p : Nat}
theorem ZAll.at (x : ZAll h z TI TO i1 i2 l1 l2 k1 k2 p) (f : ∀ b, (b = z ∨ b = TI ∨ b = TO ∨ b = i1 ∨ b = i2) → ∀ o, h.get? b = some o → h'.get? b = some o) : ZAll h' z TI TO i1 i2 l1 l2 k1 k2 p where
  st := x.st.at (f z (.inl rfl))
  ti := f TI (.inr (.inl rfl)) _ x.ti
  to_ := let ⟨o1, o2, e⟩ := x.to_; ⟨o1, o2, f TO (.inr (.inr (.inl rfl))) _ e⟩
  n1 := x.n1.at (f i1 (.inr (.inr (.inr (.inl rfl)))))
  n2 := x.n2.at (f i2 (.inr (.inr (.inr (.inr rfl)))))
theorem ZAll.lt (x : ZAll h z TI TO i1 i2 l1 l2 k1 k2 p) {b : Addr} (hb : b = z ∨ b = TI ∨ b = TO ∨ b = i1 ∨ b = i2) : b < h.objs.size := by
  obtain ⟨o1, o2, e⟩ := x.to_
  rcases hb with q | q | q | q | q
  · rw [q]; exact x.st.lt
  · rw [q]; exact Heap.lt_size x.ti
  · rw [q]; exact Heap.lt_size e
  · rw [q]; exact x.n1.lt
  · rw [q]; exact x.n2.lt
end
end Mir
namespace Mir
open PySem PySem.Spec PyProof.Rows L2
variable [Tn]
section
variable {X : Cx} {W : Wi} {k : Nat}
@[simp] noncomputable def tupRevD : D → Res D
  | .tup xs => .ok (.tup xs.reverse)
  | _ => .bad
end
end Mir
namespace Mir
open PySem PySem.Spec PyProof.Rows L2
variable [Tn]
noncomputable def capsD : List Nat → Env → Res (List D)
  | [], _ => .ok []
  | j :: js, r => getS j r >>= fun d => capsD js r >>= fun ds => .ok (d :: ds)
@[simp] theorem capsD_nil (r : Env) : capsD [] r = .ok [] := rfl
@[simp] theorem capsD_cons (j : Nat) (js : List Nat) (r : Env) : capsD (j :: js) r = (getS j r >>= fun d => capsD js r >>= fun ds => .ok (d :: ds)) := rfl
end Mir
namespace Mir
open PySem PySem.Spec PyProof.Rows L2
variable [Tn]
section
variable {X : Cx} {W : Wi}
theorem Own.opts {G : GC} {F H : Hp} {l : List Shape} {v : V} {d : D} {A : List Addr} (h : Own G F H (.parts l) v d A) : Own G F H (.opts l) v d A := by
  cases h with
  | lst h0 h1 h2 h3 h4 => exact .lst rfl h1 h2 h3 h4
  | tup h0 h1 h2 h3 h4 => exact .tup rfl h1 h2 h3 h4
  | dic h0 h1 h2 z1 z2 z3 z4 z5 h3 h4 => exact .dic rfl h1 h2 z1 z2 z3 z4 z5 h3 h4
  | dct h0 h1 h2 z h3 h4 => exact .dct rfl h1 h2 z h3 h4
  | mix h0 h1 h2 z1 z2 z3 z4 z5 z6 z7 z8 => exact .mix rfl h1 h2 z1 z2 z3 z4 z5 z6 z7 z8
  | obj h0 h1 h2 z h3 h4 => exact .obj rfl h1 h2 z h3 h4
end
end Mir
namespace Mir
open PySem PySem.Spec PyProof.Rows L2
variable [Tn]
section
variable {X : Cx} {W : Wi} {k : Kd}
theorem PG.or {e : Expr} {t1 t2 : TG} (h1 : PG X e t1) (h2 : PG X e t2) : PG X e (fun v σ H Q => t1 v σ H Q ∨ t2 v σ H Q) :=
  ⟨fun pins s σ H v u Q I r hw => hw.elim (fun h => h1.run pins s σ H v u Q I r h) fun h => h2.run pins s σ H v u Q I r h⟩
end
end Mir
namespace Mir
open PySem PySem.Spec PyProof.Rows L2
variable [Tn]
/-- a list taken apart -/
noncomputable def lstG (n : Nat) (gs : List D → Env → Res Env) : D → Env → Res Env := fun d r => match d with
  | .lst ds => if ds.length = n then gs ds r else .bad
  | _ => .bad
@[simp] theorem lstG_lst (n : Nat) (gs : List D → Env → Res Env) (ds : List D) (r : Env) : lstG n gs (.lst ds) r = if ds.length = n then gs ds r else .bad := rfl
end Mir
namespace Mir
open PySem PySem.Spec PyProof.Rows L2
variable [Tn]
noncomputable def isTxt : D → Res D
  | .str z => .ok (.str z)
  | _ => .bad
@[simp] theorem isTxt_str (z : Str) : isTxt (.str z) = .ok (.str z) := rfl
end Mir
namespace Mir
open PySem PySem.Spec PyProof.Rows L2
variable [Tn]
@[simp] noncomputable def lstRevD : D → Res D
  | .lst xs => .ok (.tup xs.reverse)
  | _ => .bad
end Mir
namespace Mir
open PySem PySem.Spec PyProof.Rows L2
/-- a table of methods, class by class -/
theorem mtN {α : Type} {Pd : Nat → α → Prop} : ∀ (c : Nat) (g : α), (none : Option α) = some g → Pd c g := fun _ _ h => nomatch h
theorem mtC {α : Type} {Pd : Nat → α → Prop} {c1 : Nat} {g1 : α} {rest : Nat → Option α} (h1 : Pd c1 g1) (h : ∀ c g, rest c = some g → Pd c g) :
    ∀ c g, (if c = c1 then some g1 else rest c) = some g → Pd c g := by
  intro c g e
  by_cases q : c = c1
  · rw [if_pos q] at e; cases e; rw [q]; exact h1
  · rw [if_neg q] at e; exact h c g e
theorem meth_ca {K : PySem.W.Frag} {a b f : Addr} {m : Str} (e : a = b) (h : Meth K b m f) : Meth K a m f := e ▸ h
theorem cls_ca {K : PySem.W.Frag} {a b : Addr} (e : a = b) (h : Cls K b) : Cls K a := e ▸ h
noncomputable def AllCa (ca : Nat → Addr) : List (Nat × Addr) → Prop
  | [] => True
  | p :: l => ca p.1 = p.2 ∧ AllCa ca l
theorem of_all {ca : Nat → Addr} : ∀ {l : List (Nat × Addr)}, AllCa ca l → ∀ p ∈ l, ca p.1 = p.2
  | [], _, _, h => nomatch h
  | _ :: _, h, p, hp => (List.mem_cons.mp hp).elim (fun e => e ▸ h.1) (of_all h.2 p)
theorem ac_n {ca : Nat → Addr} : AllCa ca [] := trivial
theorem ac_c {ca : Nat → Addr} {n : Nat} {a : Addr} {l : List (Nat × Addr)} (h : ca n = a) (t : AllCa ca l) : AllCa ca ((n, a) :: l) := ⟨h, t⟩
end Mir
namespace Mir
open PySem PySem.Spec PyProof.Rows L2
variable [Tn]
noncomputable def getV : List Key → List D → Key → Option D
  | k :: ks, v :: vs, q => if k = q then some v else getV ks vs q
  | _, _, _ => none
end Mir
namespace Mir
open PySem PySem.Spec PyProof.Rows L2
variable [Tn]
inductive Ox (α : Type) where
  | ok (a : α) (r : Env) | er (e : D) (r : Env) | bad
noncomputable def Ox.bind {α β : Type} (x : Ox α) (g : α → Env → Ox β) : Ox β := match x with
  | .ok a r => g a r
  | .er e r => .er e r
  | .bad => .bad
noncomputable def Ox.of {α : Type} (x : Res α) (r : Env) : Ox α := match x with
  | .ok a => .ok a r
  | .er e => .er e r
  | .bad => .bad
noncomputable def liftX {α : Type} (x : Ox α) (g : α → Env → Oc) : Oc := match x with
  | .ok a r => g a r
  | .er e r => .er e r
  | .bad => .bad
@[simp] theorem oxok_bind {α β : Type} (a : α) (r : Env) (g : α → Env → Ox β) : (Ox.ok a r).bind g = g a r := rfl
@[simp] theorem oxer_bind {α β : Type} (e : D) (r : Env) (g : α → Env → Ox β) : (Ox.er e r : Ox α).bind g = .er e r := rfl
@[simp] theorem oxbad_bind {α β : Type} (g : α → Env → Ox β) : (Ox.bad : Ox α).bind g = .bad := rfl
@[simp] theorem of_ok {α : Type} (a : α) (r : Env) : Ox.of (.ok a) r = .ok a r := rfl
@[simp] theorem of_er {α : Type} (e : D) (r : Env) : Ox.of (.er e : Res α) r = .er e r := rfl
@[simp] theorem of_bad {α : Type} (r : Env) : Ox.of (.bad : Res α) r = .bad := rfl
@[simp] theorem liftX_ok {α : Type} (a : α) (r : Env) (g : α → Env → Oc) : liftX (.ok a r) g = g a r := rfl
@[simp] theorem liftX_er {α : Type} (e : D) (r : Env) (g : α → Env → Oc) : liftX (.er e r : Ox α) g = .er e r := rfl
@[simp] theorem liftX_bad {α : Type} (g : α → Env → Oc) : liftX (.bad : Ox α) g = .bad := rfl
noncomputable def OutX (G : GC) (W : Wi) (σ : L2.St) {α : Type} (H0 F0 F : Hp) (P : (Nat → List Addr) → Hp → Hp → Env → α → Prop) : Ox α → Prop
  | .ok a r => ∀ fp F' H', Same F F' → MS G W.J H0 F0 fp F' σ H' r → P fp F' H' r a
  | .er e r => ∀ fp F' H' cls dd, Same F F' → MS G W.J H0 F0 fp F' σ H' r → ExcIs G F' cls dd e → W.w cls dd σ H'
  | .bad => False
section
variable {G : GC} {W : Wi} {σ : L2.St} {H0 F0 F F1 H : Hp} {fp : Nat → List Addr} {r : Env} {α β : Type}
theorem OutX.same {P : (Nat → List Addr) → Hp → Hp → Env → α → Prop} {x : Ox α} (h : OutX G W σ H0 F0 F P x) (s : Same F F1) : OutX G W σ H0 F0 F1 P x := by
  cases x with
  | ok a r => exact fun fp F' H' q m => h fp F' H' (s.trans q) m
  | er e r => exact fun fp F' H' cls dd q m x => h fp F' H' cls dd (s.trans q) m x
  | bad => exact h
theorem OutX.bind {P : (Nat → List Addr) → Hp → Hp → Env → β → Prop} {P1 : (Nat → List Addr) → Hp → Hp → Env → α → Prop} {x : Ox α} {g : α → Env → Ox β} (h : OutX G W σ H0 F0 F P (x.bind g))
    (i : ∀ fp F' H' r a, Same F F' → MS G W.J H0 F0 fp F' σ H' r → OutX G W σ H0 F0 F' P (g a r) → P1 fp F' H' r a) : OutX G W σ H0 F0 F P1 x := by
  cases x with
  | ok a r => exact fun fp F' H' q m => i fp F' H' r a q m (OutX.same h q)
  | er e r => exact h
  | bad => exact h
theorem OutX.of {P : (Nat → List Addr) → Hp → Hp → Env → α → Prop} {P1 : Hp → Hp → α → Prop} {x : Res α} (m : MS G W.J H0 F0 fp F σ H r) (h : OutX G W σ H0 F0 F P (Ox.of x r))
    (i : ∀ F' H' a, Grow F H F' H' → MS G W.J H0 F0 fp F' σ H' r → P fp F' H' r a → P1 F' H' a) : Out G W σ F H P1 x := by
  cases x with
  | ok a => exact fun F' H' g => i F' H' a g (m.grow g) (h fp F' H' g.f (m.grow g))
  | er e => exact fun cls dd F' H' g x => h fp F' H' cls dd g.f (m.grow g) x
  | bad => exact h
theorem OutX.val {P : (Nat → List Addr) → Hp → Hp → Env → α → Prop} {a : α} (m : MS G W.J H0 F0 fp F σ H r) (h : OutX G W σ H0 F0 F P (.ok a r)) : P fp F H r a := h fp F H (Same.refl _) m
end
end Mir
namespace Mir
open PySem PySem.Spec PyProof.Rows L2
variable [Tn]
/-- without the things at A -/
noncomputable def hide (H : Hp) (A : List Addr) : Hp := fun a => if a ∈ A then none else H a
section
variable {G : GC} {F H F' H' H0 F0 : Hp} {A B : List Addr}
theorem hide_ne {a : Addr} (h : a ∉ A) : hide H A a = H a := if_neg h
theorem hide_stays (hn : ∀ a ∈ A, ∀ ps, H a ≠ some (.tbl ps)) (st : Stays F0 H0 F H) (h0 : ∀ a ∈ A, H0 a = none) : Stays F0 H0 F (hide H A) where
  at' := fun a o e n => by rw [hide_ne fun z => by rw [h0 a z] at e; cases e]; exact st.at' a o e n
  tb := fun P ps e => by rw [hide_ne fun z => by rw [h0 P z] at e; cases e]; exact st.tb P ps e
  tf := fun P h => by
    obtain ⟨_, ps', e', _⟩ := id h
    obtain ⟨q0, ps, q1, q2⟩ := st.tf P h
    exact ⟨q0, ps, by rw [hide_ne fun z => hn P z ps q1]; exact q1, q2⟩
end
section
variable {G : GC} {J : L2.St → Prop} {H0 F0 F H F' H' : Hp} {fp : Nat → List Addr} {σ : L2.St} {r : Env} {j : Nat} {s : Shape} {d d2 : D} {B : List Addr} {p : Addr}
/-- behind a call that changed the j-th name's thing -/
theorem MS.after (m : MS G J H0 F0 fp F σ H r) (hj : r[j]? = some (.ow s d)) (hp : σ[j]? = some (some (.ref p))) (g : Grow F (hide H (fp j)) F' H') (ow : Own G F' H' s (.ref p) d2 B) (fr : ∀ b ∈ B, hide H (fp j) b = none) :
    MS G J H0 F0 (fun i => if i = j then B else fp i) F' σ H' (r.set j (.ow s d2)) := by
  obtain ⟨⟨v0, hv0, ow0⟩, hn⟩ := m.ow j s d hj
  have hil : j < r.length := (List.getElem?_eq_some_iff.mp hj).1
  have keep : ∀ (i : Nat) (t : Shape) (e : D), i ≠ j → r[i]? = some (.ow t e) → Keep (fp i) F H F' H' := fun i t e ne hi => by
    obtain ⟨⟨v, hv, o⟩, _⟩ := m.ow i t e hi
    have na : ∀ a ∈ fp i, a ∉ fp j := m.ap i j t s e d ne hi hj
    refine ⟨fun a ha u hu => g.h.at' a u (by rw [hide_ne (na a ha)]; exact hu) fun ps z => o.nt a ha ps (by rw [hu, z]), g.f, fun a ha e0 => ?_⟩
    cases q : F' a with
    | none => rfl
    | some u =>
      rcases g.new a u q with z | z
      · rw [e0] at z; cases z
      · rw [hide_ne (na a ha)] at z
        obtain ⟨_, w, hw⟩ := o.there a ha
        rw [z] at hw; cases hw
  refine ⟨m.jo, (hide_stays ow0.nt m.s0 hn).trans g.h, m.f0.trans g.f, g.sub, fun a u e => ?_, by simpa using m.len, fun i e h => ?_, fun i t e h => ?_, fun i k t u e1 e2 ne h1 h2 a => ?_, m.t0⟩
  · rcases g.new a u e with z | z
    · exact m.new a u z
    · by_cases ha : a ∈ fp j
      · exact .inr (hn a ha)
      · rw [hide_ne ha] at z
        exact .inr (m.s0.free z)
  · rcases get_set_slot h with ⟨_, z, _⟩ | ⟨ne, h⟩
    · cases z
    · obtain ⟨v, h1, h2⟩ := m.sh i e h
      exact ⟨v, h1, h2.mono g.f⟩
  · rcases get_set_slot h with ⟨rfl, z, _⟩ | ⟨ne, h⟩
    · cases z
      rw [if_pos rfl]
      refine ⟨⟨.ref p, hp, ow⟩, fun b hb => ?_⟩
      have z := fr b hb
      by_cases ha : b ∈ fp j
      · exact hn b ha
      · rw [hide_ne ha] at z
        exact m.s0.free z
    · rw [if_neg (Ne.symm ne)]
      obtain ⟨⟨v, h1, h2⟩, h3⟩ := m.ow i t e h
      exact ⟨⟨v, h1, h2.keep (keep i t e (Ne.symm ne) h)⟩, h3⟩
  · have other : ∀ (i : Nat) (t : Shape) (e : D), i ≠ j → r[i]? = some (.ow t e) → ∀ b ∈ B, b ∉ fp i := fun i t e ne hi b hb z => by
      obtain ⟨⟨_, _, o⟩, _⟩ := m.ow i t e hi
      obtain ⟨_, w, hw⟩ := o.there b z
      have q := fr b hb
      rw [hide_ne (m.ap i j t s e d ne hi hj b z), hw] at q
      cases q
    rcases get_set_slot h1 with ⟨rfl, _, _⟩ | ⟨n1, h1⟩
    · rcases get_set_slot h2 with ⟨z, _, _⟩ | ⟨n2, h2⟩
      · exact absurd z ne
      · rw [if_pos rfl, if_neg (Ne.symm n2)]
        exact other k u e2 (Ne.symm n2) h2 a
    · rcases get_set_slot h2 with ⟨rfl, _, _⟩ | ⟨n2, h2⟩
      · rw [if_pos rfl, if_neg (Ne.symm n1)]
        exact fun ha hb => other i t e1 (Ne.symm n1) h1 a hb ha
      · rw [if_neg (Ne.symm n1), if_neg (Ne.symm n2)]
        exact m.ap i k t u e1 e2 ne h1 h2 a
end
end Mir
namespace Mir
open PySem PySem.Spec PyProof.Rows L2
variable [Tn]
section
variable {G : GC} {J : L2.St → Prop} {H0 F0 F H : Hp} {fp : Nat → List Addr} {σ : L2.St} {r : Env}
theorem MS.dct (m : MS G J H0 F0 fp F σ H r) {i : Nat} {ks : List Key} {vs : List D} (h : r[i]? = some (.ow .flat (.dct ks vs))) : ∃ a kvs, σ[i]? = some (some (.ref a)) ∧ H a = some (.dK kvs) ∧ F a = none ∧ ks = kvs.map (·.1) ∧ RepAll G F (kvs.map (·.2)) vs ∧ fp i = [a] := by
  obtain ⟨⟨v, h1, h2⟩, _⟩ := m.ow i _ _ h
  generalize fp i = A at h2
  cases h2 with
  | dct _ e f z ra na =>
    obtain ⟨rfl, rr⟩ := ra.to_rep
    exact ⟨_, _, h1, e, f, z, rr, rfl⟩
end
end Mir
namespace Mir
open PySem PySem.Spec PyProof.Rows L2
/-- a key at hand -/
noncomputable def KeyIs (h : Heap) (k : NestedKey) (v : Value) : Prop := NestedIs h k v ∧ k.depth ≤ 8
noncomputable abbrev MN := NestedKey × Value × Value
noncomputable def entM (w : World) (y : MN) : DictEntry := ⟨y.1.hash w, y.2.1, y.2.2⟩
noncomputable def atM (ys : List MN) (k : NestedKey) : Option Value := (ys.find? fun y => decide (y.1 = k)).map (·.2.2)
section
variable {prog : Program} {w : World} {A : Around} {E : Value → Shared → Prop} {s : Shared}
theorem wp_if {α : Type} {c : Prop} [Decidable c] {x y : Sem α} {Q : α → Shared → Prop} (h1 : c → wpAny (model prog w) A x Q E s) (h2 : ¬ c → wpAny (model prog w) A y Q E s) : wpAny (model prog w) A (if c then x else y) Q E s := by
  by_cases h : c
  · rw [if_pos h]; exact h1 h
  · rw [if_neg h]; exact h2 h
theorem mayTell_any {kv : Value} {k : NestedKey} {l : List Value} {Q : Bool → Shared → Prop} (hk : KeyIs s.heap k kv) (hl : ∀ v ∈ l, ∃ q, KeyIs s.heap q v) (h : Q false s) : wpAny (model prog w) A (tableMayTell kv l) Q E s := by
  unfold tableMayTell
  by_cases e : l.isEmpty = true
  · rw [if_pos e]; exact wpAny_pure h
  rw [if_neg e]
  refine wpAny_bind (quiet_key k kv 8 s hk.1 hk.2 A E _ ?_)
  show wpAny _ _ (if (!true) = true then _ else _) _ E s
  rw [if_neg (by simp)]
  refine wpAny_bind (wpAny_forIn_list _ (fun more acc t => t = s ∧ acc = (none, ()) ∧ ∀ v ∈ more, ∃ q, KeyIs s.heap q v) _ (fun v more acc t hh => ?_) (fun acc t hh => ?_) _ _ ⟨rfl, rfl, hl⟩)
  · obtain ⟨rfl, rfl, hm⟩ := hh
    obtain ⟨q, hq⟩ := hm v List.mem_cons_self
    refine wpAny_bind (quiet_key q v 8 t hq.1 hq.2 A E _ ?_)
    show wpAny _ _ (if (!true) = true then _ else _) _ E t
    rw [if_neg (by simp)]
    exact wpAny_pure ⟨rfl, rfl, fun u hu => hm u (List.mem_cons_of_mem _ hu)⟩
  · obtain ⟨rfl, rfl, _⟩ := hh
    exact wpAny_pure h
variable {d : Addr} {o : Obj} {es : Array DictEntry} {ep : Nat} {ys : List MN} {k : NestedKey} {kv : Value}
theorem entM_at (eq : es.toList = ys.map (entM w)) (j : Nat) : es[j]? = (ys[j]?).map (entM w) := by
  rw [← Array.getElem?_toList, eq, List.getElem?_map]
theorem nodup_at (nd : (ys.map (·.1)).Nodup) {i j : Nat} {k : NestedKey} {p q : Value × Value} (hi : ys[i]? = some (k, p)) (hj : ys[j]? = some (k, q)) : i = j := by
  have a : (ys.map (·.1))[i]? = some k := by rw [List.getElem?_map, hi]; rfl
  have b : (ys.map (·.1))[j]? = some k := by rw [List.getElem?_map, hj]; rfl
  exact (List.getElem?_inj (List.getElem?_eq_some_iff.mp a).1 nd).mp (a.trans b.symm)
/-- the places of one hash from i on -/
theorem step_places {n i x : Nat} {p : Nat → Bool} {rest : List Nat} (h : (List.range' i (n - i)).filter p = x :: rest) : i ≤ x ∧ x < n ∧ p x = true ∧ (∀ j, i ≤ j → j < x → p j = false) ∧ rest = (List.range' (x + 1) (n - (x + 1))).filter p := by
  obtain ⟨h1, h2, h3, h4, h5⟩ := filter_range'_cons _ _ _ _ _ h
  exact ⟨h1, by omega, h3, h4, by rw [h5]; congr 2; omega⟩
theorem find_any {Q : Option Nat → Shared → Prop} (hu : A.units + 8 < cLine) (hk : KeyIs s.heap k kv) (eo : s.heap.get? d = some o) (ed : o.data = .dict es ep) (eq : es.toList = ys.map (entM w)) (all : ∀ y ∈ ys, KeyIs s.heap y.1 y.2.1)
    (nd : (ys.map (·.1)).Nodup) (hns : match kv with | .ref _ => True | .str _ _ => True | .int _ _ => True | _ => False) (hs : ∀ x t, kv = .str x t → (es.all fun e => isExactStrKey e.key) = false) (no : (∀ (j : Nat) (p : Value × Value), ys[j]? ≠ some (k, p)) → Q none s) (yes : ∀ (j : Nat) (p : Value × Value), ys[j]? = some (k, p) → Q (some j) s) :
    wpAny (model prog w) A (dictFind d kv (k.hash w)) Q E s := by
  have sz : es.size = ys.length := by rw [← Array.length_toList, eq, List.length_map]
  have pk : ∀ (j : Nat) (p : Value × Value), ys[j]? = some (k, p) → ((es[j]?.map (·.hash)) == some (k.hash w)) = true := fun j p hj => by
    rw [entM_at eq j, hj]; simp [entM]
  have mem : ∀ e ∈ es, ∃ y ∈ ys, e = entM w y := fun e he => by
    obtain ⟨y, hy, rfl⟩ := List.mem_map.mp (eq ▸ Array.mem_toList_iff.mpr he)
    exact ⟨y, hy, rfl⟩
  have noref : ∀ a, kv = .ref a → ¬ (es.any fun e => e.key == Value.ref a && e.hash != k.hash w) = true := by
    rintro a rfl z
    rw [← Array.any_toList, List.any_eq_true] at z
    obtain ⟨e, he, hc⟩ := z
    obtain ⟨y, hy, rfl⟩ := mem e (Array.mem_toList_iff.mp he)
    simp only [entM, Bool.and_eq_true, beq_iff_eq, bne_iff_ne, ne_eq] at hc
    have q := (all y hy).1
    rw [hc.1] at q
    exact hc.2 (by rw [NestedIs.inj _ _ _ q hk.1])
  -- the loop over the places, one key compared with another
  have cmp : ∀ {x : Nat} {q : NestedKey} {v u : Value} {R : Bool → Shared → Prop}, ys[x]? = some (q, v, u) → R (decide (q = k)) s → wpAny (model prog w) A (eqBool v kv) R E s := fun {x q v u R} hx h => by
    have hq := all _ (List.mem_of_getElem? hx)
    have d1 : q.depth ≤ 8 := hq.2
    exact eqAt_key q k A s v kv hq.1 hk.1 (by omega) _ _ _ _ (by rw [← NestedKey.decide_eq]; exact h)
  have stored : ∀ v ∈ (placesWithHash es.size (fun i => es[i]?.map (·.hash)) (k.hash w)).filterMap (fun i => es[i]?.map (·.key)), ∃ q, KeyIs s.heap q v := fun v hv => by
    obtain ⟨i, _, hi⟩ := List.mem_filterMap.mp hv
    cases z : es[i]? with
    | none => rw [z] at hi; cases hi
    | some e =>
      rw [z] at hi
      obtain rfl : e.key = v := by simpa using hi
      obtain ⟨y, hy, rfl⟩ := mem e (Array.mem_of_getElem? z)
      exact ⟨y.1, all y hy⟩
  have plain : wpAny (model prog w) A (dictWalkPlain d kv (k.hash w) es (placesWithHash es.size (fun i => es[i]?.map (·.hash)) (k.hash w))) Q E s := by
    unfold dictWalkPlain
    refine wpAny_bind (wpAny_forIn_list _ (fun more acc t => t = s ∧ acc = (none, ()) ∧ ∃ i, more = (List.range' i (es.size - i)).filter (fun i => (es[i]?.map (·.hash)) == some (k.hash w)) ∧ i ≤ es.size ∧ ∀ (j : Nat) (p : Value × Value), j < i → ys[j]? ≠ some (k, p)) _ (fun x more acc t hh => ?_) (fun acc t hh => ?_) _ _
      ⟨rfl, rfl, 0, by rw [placesWithHash, List.range_eq_range', Nat.sub_zero], Nat.zero_le _, fun _ _ z => absurd z (Nat.not_lt_zero _)⟩)
    · obtain ⟨rfl, rfl, i, hm, hi, hno⟩ := hh
      obtain ⟨g1, g2, g3, g4, g5⟩ := step_places hm.symm
      obtain ⟨⟨q, v, u⟩, hx⟩ : ∃ y, ys[x]? = some y := ⟨ys[x]'(by rw [← sz]; exact g2), List.getElem?_eq_getElem _⟩
      have ex : es[x]? = some ⟨q.hash w, v, u⟩ := by rw [entM_at eq x, hx]; rfl
      have before : ∀ (j : Nat) (p : Value × Value), j < x → ys[j]? ≠ some (k, p) := fun j p hj z => by
        rcases Nat.lt_or_ge j i with c | c
        · exact hno j p c z
        · have := g4 j c hj
          rw [pk j p z] at this
          cases this
      have hh : (q.hash w == k.hash w) = true := by
        rw [ex] at g3
        simpa using g3
      rw [ex]
      dsimp only
      rw [if_pos hh]
      refine wpAny_bind (wpAny_dictEpoch eo ed (wpAny_bind (cmp hx (wpAny_bind (wpAny_dictEpoch eo ed ?_)))))
      show wpAny _ _ (if (ep != ep) = true then _ else _) _ E _
      rw [if_neg (by simp)]
      by_cases e : q = k
      · rw [decide_eq_true e]
        subst e
        first | rw [if_pos rfl] | skip
        refine wpAny_bind (wpAny_rule ?_)
        exact wpAny_pure (wpAny_pure (yes x _ hx))
      · rw [decide_eq_false e]
        simp only [Bool.false_eq_true, if_false]
        refine wpAny_bind (wpAny_rule ?_)
        refine wpAny_pure ⟨rfl, rfl, x + 1, g5, g2, fun j p hj z => ?_⟩
        rcases Nat.lt_or_ge j x with c | c
        · exact before j p c z
        · have : j = x := by omega
          subst this
          rw [hx] at z
          injection z with z
          injection z with z
          exact e z
    · obtain ⟨rfl, rfl, i, hm, hi, hno⟩ := hh
      refine wpAny_pure (no fun j p hj => ?_)
      rcases Nat.lt_or_ge j i with c | c
      · exact hno j p c hj
      · have jl : j < es.size := by
          rw [sz]
          exact (List.getElem?_eq_some_iff.mp hj).1
        have := List.filter_eq_nil_iff.mp hm.symm j (List.mem_range'_1.mpr ⟨c, by omega⟩)
        exact this (pk j p hj)
  unfold dictFind
  with_reducible refine wpAny_holding ?_
  refine wpAny_bind (wpAny_dictEntries eo ed ?_)
  cases kv with
  | ref a =>
    dsimp only
    refine wp_if (fun _ => plain) fun _ => ?_
    rw [if_neg (noref a rfl)]
    refine wp_if (fun _ => wpAny_bind (wpAny_pure ?_)) fun _ => wpAny_bind (mayTell_any hk stored ?_)
    all_goals
      rw [if_neg (by simp)]
      refine wpAny_bind (wpAny_forIn_list _ (fun more acc t => t = s ∧ ∃ i hit, acc = (none, hit) ∧ more = (List.range' i (es.size - i)).filter (fun i => (es[i]?.map (·.hash)) == some (k.hash w)) ∧ i ≤ es.size ∧
        ((hit = none ∧ ∀ (j : Nat) (p : Value × Value), j < i → ys[j]? ≠ some (k, p)) ∨ ∃ (j : Nat) (p : Value × Value), hit = some j ∧ j < i ∧ ys[j]? = some (k, p))) _ (fun x more acc t hh => ?_) (fun acc t hh => ?_) _ _
        ⟨rfl, 0, none, rfl, by rw [placesWithHash, List.range_eq_range', Nat.sub_zero], Nat.zero_le _, .inl ⟨rfl, fun _ _ z => absurd z (Nat.not_lt_zero _)⟩⟩)
      · obtain ⟨rfl, i, hit, rfl, hm, hi, hH⟩ := hh
        obtain ⟨g1, g2, g3, g4, g5⟩ := step_places hm.symm
        obtain ⟨⟨q, v, u⟩, hx⟩ : ∃ y, ys[x]? = some y := ⟨ys[x]'(by rw [← sz]; exact g2), List.getElem?_eq_getElem _⟩
        have ex : es[x]? = some ⟨q.hash w, v, u⟩ := by rw [entM_at eq x, hx]; rfl
        have before : (hit = none ∧ ∀ (j : Nat) (p : Value × Value), j < x → ys[j]? ≠ some (k, p)) ∨ ∃ (j : Nat) (p : Value × Value), hit = some j ∧ j < x ∧ ys[j]? = some (k, p) := by
          rcases hH with ⟨z0, hno⟩ | ⟨j, p, z1, z2, z3⟩
          · refine .inl ⟨z0, fun j p hj z => ?_⟩
            rcases Nat.lt_or_ge j i with c | c
            · exact hno j p c z
            · have := g4 j c hj
              rw [pk j p z] at this
              cases this
          · exact .inr ⟨j, p, z1, by omega, z3⟩
        have behind : ¬ q = k → (hit = none ∧ ∀ (j : Nat) (p : Value × Value), j < x + 1 → ys[j]? ≠ some (k, p)) ∨ ∃ (j : Nat) (p : Value × Value), hit = some j ∧ j < x + 1 ∧ ys[j]? = some (k, p) := fun e => by
          rcases before with ⟨z0, hno⟩ | ⟨j, p, z1, z2, z3⟩
          · refine .inl ⟨z0, fun j p hj z => ?_⟩
            rcases Nat.lt_or_ge j x with c | c
            · exact hno j p c z
            · have : j = x := by omega
              subst this
              rw [hx] at z
              injection z with z
              injection z with z
              exact e z
          · exact .inr ⟨j, p, z1, by omega, z3⟩
        have hhe : (q.hash w == k.hash w) = true := by
          rw [ex] at g3
          simpa using g3
        rw [ex]
        dsimp only
        rw [if_pos hhe]
        refine wpAny_bind (wpAny_dictEpoch eo ed (wpAny_bind (cmp hx (wpAny_bind (wpAny_dictEpoch eo ed ?_)))))
        show wpAny _ _ (if (ep != ep) = true then _ else _) _ E _
        rw [if_neg (by simp)]
        by_cases e : q = k
        · rw [decide_eq_true e]
          subst e
          rcases before with ⟨rfl, _⟩ | ⟨j, p, _, z2, z3⟩
          · first | rw [if_pos rfl] | skip
            simp only [Option.isSome_none, Bool.false_eq_true, if_false]
            first | refine wpAny_bind (wpAny_pure ?_) | skip
            refine wpAny_bind (wpAny_rule ?_)
            refine wp_if (fun _ => wpAny_pure (wpAny_pure (yes x _ hx))) fun _ => wpAny_pure ⟨rfl, x + 1, some x, rfl, g5, g2, .inr ⟨x, _, rfl, Nat.lt_succ_self x, hx⟩⟩
          · exact absurd (nodup_at nd z3 hx) (by omega)
        · rw [decide_eq_false e]
          simp only [Bool.false_eq_true, if_false]
          refine wpAny_bind (wpAny_rule ?_)
          first | rw [if_neg (by simp)] | skip
          first
            | exact wpAny_pure ⟨rfl, x + 1, hit, rfl, g5, g2, behind e⟩
            | exact wpAny_bind (wpAny_pure (wpAny_pure ⟨rfl, x + 1, hit, rfl, g5, g2, behind e⟩))
      · obtain ⟨rfl, i, hit, rfl, hm, hi, hH⟩ := hh
        rcases hH with ⟨rfl, hno⟩ | ⟨j, p, rfl, _, z⟩
        · refine wpAny_pure (no fun j p hj => ?_)
          rcases Nat.lt_or_ge j i with c | c
          · exact hno j p c hj
          · have jl : j < es.size := by
              rw [sz]
              exact (List.getElem?_eq_some_iff.mp hj).1
            have := List.filter_eq_nil_iff.mp hm.symm j (List.mem_range'_1.mpr ⟨c, by omega⟩)
            exact this (pk j p hj)
        · exact wpAny_pure (yes j p z)
  | str x t =>
    dsimp only
    rw [if_neg (by rw [hs x t rfl]; simp)]
    refine wp_if (fun _ => plain) fun _ => ?_
    refine wp_if (fun _ => wpAny_bind (wpAny_pure ?_)) fun _ => wpAny_bind (mayTell_any hk stored ?_)
    all_goals
      rw [if_neg (by simp)]
      refine wpAny_bind (wpAny_forIn_list _ (fun more acc t => t = s ∧ ∃ i hit, acc = (none, hit) ∧ more = (List.range' i (es.size - i)).filter (fun i => (es[i]?.map (·.hash)) == some (k.hash w)) ∧ i ≤ es.size ∧
        ((hit = none ∧ ∀ (j : Nat) (p : Value × Value), j < i → ys[j]? ≠ some (k, p)) ∨ ∃ (j : Nat) (p : Value × Value), hit = some j ∧ j < i ∧ ys[j]? = some (k, p))) _ (fun x more acc t hh => ?_) (fun acc t hh => ?_) _ _
        ⟨rfl, 0, none, rfl, by rw [placesWithHash, List.range_eq_range', Nat.sub_zero], Nat.zero_le _, .inl ⟨rfl, fun _ _ z => absurd z (Nat.not_lt_zero _)⟩⟩)
      · obtain ⟨rfl, i, hit, rfl, hm, hi, hH⟩ := hh
        obtain ⟨g1, g2, g3, g4, g5⟩ := step_places hm.symm
        obtain ⟨⟨q, v, u⟩, hx⟩ : ∃ y, ys[x]? = some y := ⟨ys[x]'(by rw [← sz]; exact g2), List.getElem?_eq_getElem _⟩
        have ex : es[x]? = some ⟨q.hash w, v, u⟩ := by rw [entM_at eq x, hx]; rfl
        have before : (hit = none ∧ ∀ (j : Nat) (p : Value × Value), j < x → ys[j]? ≠ some (k, p)) ∨ ∃ (j : Nat) (p : Value × Value), hit = some j ∧ j < x ∧ ys[j]? = some (k, p) := by
          rcases hH with ⟨z0, hno⟩ | ⟨j, p, z1, z2, z3⟩
          · refine .inl ⟨z0, fun j p hj z => ?_⟩
            rcases Nat.lt_or_ge j i with c | c
            · exact hno j p c z
            · have := g4 j c hj
              rw [pk j p z] at this
              cases this
          · exact .inr ⟨j, p, z1, by omega, z3⟩
        have behind : ¬ q = k → (hit = none ∧ ∀ (j : Nat) (p : Value × Value), j < x + 1 → ys[j]? ≠ some (k, p)) ∨ ∃ (j : Nat) (p : Value × Value), hit = some j ∧ j < x + 1 ∧ ys[j]? = some (k, p) := fun e => by
          rcases before with ⟨z0, hno⟩ | ⟨j, p, z1, z2, z3⟩
          · refine .inl ⟨z0, fun j p hj z => ?_⟩
            rcases Nat.lt_or_ge j x with c | c
            · exact hno j p c z
            · have : j = x := by omega
              subst this
              rw [hx] at z
              injection z with z
              injection z with z
              exact e z
          · exact .inr ⟨j, p, z1, by omega, z3⟩
        have hhe : (q.hash w == k.hash w) = true := by
          rw [ex] at g3
          simpa using g3
        rw [ex]
        dsimp only
        rw [if_pos hhe]
        refine wpAny_bind (wpAny_dictEpoch eo ed (wpAny_bind (cmp hx (wpAny_bind (wpAny_dictEpoch eo ed ?_)))))
        show wpAny _ _ (if (ep != ep) = true then _ else _) _ E _
        rw [if_neg (by simp)]
        by_cases e : q = k
        · rw [decide_eq_true e]
          subst e
          rcases before with ⟨rfl, _⟩ | ⟨j, p, _, z2, z3⟩
          · first | rw [if_pos rfl] | skip
            simp only [Option.isSome_none, Bool.false_eq_true, if_false]
            first | refine wpAny_bind (wpAny_pure ?_) | skip
            refine wpAny_bind (wpAny_rule ?_)
            refine wp_if (fun _ => wpAny_pure (wpAny_pure (yes x _ hx))) fun _ => wpAny_pure ⟨rfl, x + 1, some x, rfl, g5, g2, .inr ⟨x, _, rfl, Nat.lt_succ_self x, hx⟩⟩
          · exact absurd (nodup_at nd z3 hx) (by omega)
        · rw [decide_eq_false e]
          simp only [Bool.false_eq_true, if_false]
          refine wpAny_bind (wpAny_rule ?_)
          first | rw [if_neg (by simp)] | skip
          first
            | exact wpAny_pure ⟨rfl, x + 1, hit, rfl, g5, g2, behind e⟩
            | exact wpAny_bind (wpAny_pure (wpAny_pure ⟨rfl, x + 1, hit, rfl, g5, g2, behind e⟩))
      · obtain ⟨rfl, i, hit, rfl, hm, hi, hH⟩ := hh
        rcases hH with ⟨rfl, hno⟩ | ⟨j, p, rfl, _, z⟩
        · refine wpAny_pure (no fun j p hj => ?_)
          rcases Nat.lt_or_ge j i with c | c
          · exact hno j p c hj
          · have jl : j < es.size := by
              rw [sz]
              exact (List.getElem?_eq_some_iff.mp hj).1
            have := List.filter_eq_nil_iff.mp hm.symm j (List.mem_range'_1.mpr ⟨c, by omega⟩)
            exact this (pk j p hj)
        · exact wpAny_pure (yes j p z)
  | int x t =>
    dsimp only
    refine wp_if (fun _ => plain) fun _ => ?_
    refine wp_if (fun _ => wpAny_bind (wpAny_pure ?_)) fun _ => wpAny_bind (mayTell_any hk stored ?_)
    all_goals
      rw [if_neg (by simp)]
      refine wpAny_bind (wpAny_forIn_list _ (fun more acc t => t = s ∧ ∃ i hit, acc = (none, hit) ∧ more = (List.range' i (es.size - i)).filter (fun i => (es[i]?.map (·.hash)) == some (k.hash w)) ∧ i ≤ es.size ∧
        ((hit = none ∧ ∀ (j : Nat) (p : Value × Value), j < i → ys[j]? ≠ some (k, p)) ∨ ∃ (j : Nat) (p : Value × Value), hit = some j ∧ j < i ∧ ys[j]? = some (k, p))) _ (fun x more acc t hh => ?_) (fun acc t hh => ?_) _ _
        ⟨rfl, 0, none, rfl, by rw [placesWithHash, List.range_eq_range', Nat.sub_zero], Nat.zero_le _, .inl ⟨rfl, fun _ _ z => absurd z (Nat.not_lt_zero _)⟩⟩)
      · obtain ⟨rfl, i, hit, rfl, hm, hi, hH⟩ := hh
        obtain ⟨g1, g2, g3, g4, g5⟩ := step_places hm.symm
        obtain ⟨⟨q, v, u⟩, hx⟩ : ∃ y, ys[x]? = some y := ⟨ys[x]'(by rw [← sz]; exact g2), List.getElem?_eq_getElem _⟩
        have ex : es[x]? = some ⟨q.hash w, v, u⟩ := by rw [entM_at eq x, hx]; rfl
        have before : (hit = none ∧ ∀ (j : Nat) (p : Value × Value), j < x → ys[j]? ≠ some (k, p)) ∨ ∃ (j : Nat) (p : Value × Value), hit = some j ∧ j < x ∧ ys[j]? = some (k, p) := by
          rcases hH with ⟨z0, hno⟩ | ⟨j, p, z1, z2, z3⟩
          · refine .inl ⟨z0, fun j p hj z => ?_⟩
            rcases Nat.lt_or_ge j i with c | c
            · exact hno j p c z
            · have := g4 j c hj
              rw [pk j p z] at this
              cases this
          · exact .inr ⟨j, p, z1, by omega, z3⟩
        have behind : ¬ q = k → (hit = none ∧ ∀ (j : Nat) (p : Value × Value), j < x + 1 → ys[j]? ≠ some (k, p)) ∨ ∃ (j : Nat) (p : Value × Value), hit = some j ∧ j < x + 1 ∧ ys[j]? = some (k, p) := fun e => by
          rcases before with ⟨z0, hno⟩ | ⟨j, p, z1, z2, z3⟩
          · refine .inl ⟨z0, fun j p hj z => ?_⟩
            rcases Nat.lt_or_ge j x with c | c
            · exact hno j p c z
            · have : j = x := by omega
              subst this
              rw [hx] at z
              injection z with z
              injection z with z
              exact e z
          · exact .inr ⟨j, p, z1, by omega, z3⟩
        have hhe : (q.hash w == k.hash w) = true := by
          rw [ex] at g3
          simpa using g3
        rw [ex]
        dsimp only
        rw [if_pos hhe]
        refine wpAny_bind (wpAny_dictEpoch eo ed (wpAny_bind (cmp hx (wpAny_bind (wpAny_dictEpoch eo ed ?_)))))
        show wpAny _ _ (if (ep != ep) = true then _ else _) _ E _
        rw [if_neg (by simp)]
        by_cases e : q = k
        · rw [decide_eq_true e]
          subst e
          rcases before with ⟨rfl, _⟩ | ⟨j, p, _, z2, z3⟩
          · first | rw [if_pos rfl] | skip
            simp only [Option.isSome_none, Bool.false_eq_true, if_false]
            first | refine wpAny_bind (wpAny_pure ?_) | skip
            refine wpAny_bind (wpAny_rule ?_)
            refine wp_if (fun _ => wpAny_pure (wpAny_pure (yes x _ hx))) fun _ => wpAny_pure ⟨rfl, x + 1, some x, rfl, g5, g2, .inr ⟨x, _, rfl, Nat.lt_succ_self x, hx⟩⟩
          · exact absurd (nodup_at nd z3 hx) (by omega)
        · rw [decide_eq_false e]
          simp only [Bool.false_eq_true, if_false]
          refine wpAny_bind (wpAny_rule ?_)
          first | rw [if_neg (by simp)] | skip
          first
            | exact wpAny_pure ⟨rfl, x + 1, hit, rfl, g5, g2, behind e⟩
            | exact wpAny_bind (wpAny_pure (wpAny_pure ⟨rfl, x + 1, hit, rfl, g5, g2, behind e⟩))
      · obtain ⟨rfl, i, hit, rfl, hm, hi, hH⟩ := hh
        rcases hH with ⟨rfl, hno⟩ | ⟨j, p, rfl, _, z⟩
        · refine wpAny_pure (no fun j p hj => ?_)
          rcases Nat.lt_or_ge j i with c | c
          · exact hno j p c hj
          · have jl : j < es.size := by
              rw [sz]
              exact (List.getElem?_eq_some_iff.mp hj).1
            have := List.filter_eq_nil_iff.mp hm.symm j (List.mem_range'_1.mpr ⟨c, by omega⟩)
            exact this (pk j p hj)
        · exact wpAny_pure (yes j p z)
  | _ => exact absurd hns (by exact fun z => z)
end
end Mir
namespace Mir
open PySem PySem.Spec PyProof.Rows L2
/-- at d stands a dict with these entries -/
noncomputable def DictM (w : World) (h : Heap) (d : Addr) (ys : List MN) : Prop := ∃ o es ep, h.get? d = some o ∧ o.ExactDict ∧ o.data = .dict es ep ∧ es.toList = ys.map (entM w) ∧ (∀ y ∈ ys, KeyIs h y.1 y.2.1) ∧ (ys.map (·.1)).Nodup
noncomputable def shapeK (kv : Value) : Prop := match kv with
  | .ref _ => True
  | .str _ _ => True
  | .int _ _ => True
  | _ => False
section
variable {prog : Program} {w : World} {A : Around} {E : Value → Shared → Prop} {s : Shared} {d : Addr} {ys : List MN} {k : NestedKey} {kv : Value}
theorem DictM.ty (h : DictM w s.heap d ys) : s.TypeIs (.ref d) "dict" := let ⟨o, _, _, e, x, _⟩ := h; ⟨o, e, x.1⟩
theorem atM_some (nd : (ys.map (·.1)).Nodup) {j : Nat} {p : Value × Value} (h : ys[j]? = some (k, p)) : atM ys k = some p.2 := by
  induction ys generalizing j with
  | nil => simp at h
  | cons y ys ih =>
    rw [List.map_cons, List.nodup_cons] at nd
    cases j with
    | zero =>
      simp only [List.getElem?_cons_zero, Option.some.injEq] at h
      subst h
      simp [atM]
    | succ j =>
      simp only [List.getElem?_cons_succ] at h
      have ne : ¬ y.1 = k := fun e => nd.1 (e ▸ List.mem_map.mpr ⟨(k, p), List.mem_of_getElem? h, rfl⟩)
      have := ih nd.2 h
      simpa [atM, List.find?_cons, ne] using this
theorem atM_none (h : ∀ (j : Nat) (p : Value × Value), ys[j]? ≠ some (k, p)) : atM ys k = none := by
  have : (ys.find? fun y => decide (y.1 = k)) = none := List.find?_eq_none.mpr fun y hy e => by
    obtain ⟨j, hj⟩ := List.mem_iff_getElem?.mp hy
    exact h j y.2 (by rw [hj, ← of_decide_eq_true e])
  unfold atM
  rw [this]
  rfl
theorem hash_any {Q : Int → Shared → Prop} (hu : A.units + 8 < cLine) (hk : KeyIs s.heap k kv) (h : Q (k.hash w) { s with toks := s.toks + k.draws }) : wpAny (model prog w) A (pyHash kv) Q E s := by
  have := hk.2
  exact pyHash_key k kv A s Q hk.1 (by omega) h
/-- the strings' own road is not taken -/
noncomputable def NotAllStr (kv : Value) (ys : List MN) : Prop := ∀ x t, kv = .str x t → ∃ y ∈ ys, isExactStrKey y.2.1 = false
theorem notAllStr_at {es : Array DictEntry} (eq : es.toList = ys.map (entM w)) (h : NotAllStr kv ys) : ∀ x t, kv = .str x t → (es.all fun e => isExactStrKey e.key) = false := fun x t e => by
  obtain ⟨y, hy, q⟩ := h x t e
  rw [← Array.all_toList, eq, List.all_map, List.all_eq_false]
  exact ⟨y, hy, by simpa [entM] using q⟩
theorem get_any {Q : Option Value → Shared → Prop} (hu : A.units + 8 < cLine) (hk : KeyIs s.heap k kv) (sh : shapeK kv) (ns : NotAllStr kv ys) (hm : DictM w s.heap d ys) (h : Q (atM ys k) { s with toks := s.toks + k.draws }) : wpAny (model prog w) A (dictGet d kv) Q E s := by
  obtain ⟨o, es, ep, eo, _, ed, eq, all, nd⟩ := hm
  unfold dictGet
  with_reducible refine wpAny_holding ?_
  refine wpAny_bind (hash_any hu hk (wpAny_bind (find_any (s := { s with toks := s.toks + k.draws }) hu hk eo ed eq all nd sh (notAllStr_at eq ns) (fun no => ?_) fun j p hj => ?_)))
  · rw [atM_none no] at h
    exact wpAny_pure h
  · rw [atM_some nd hj] at h
    refine wpAny_bind (wpAny_dictEntries (s := { s with toks := s.toks + k.draws }) eo ed ?_)
    rw [entM_at eq j, hj]
    exact wpAny_pure h
theorem tup_shape {a : Addr} : shapeK (.ref a) ∧ ∀ ys, NotAllStr (.ref a) ys := ⟨trivial, fun _ x t e => nomatch e⟩
theorem notIn_any {a : Addr} {Q : Value → Shared → Prop} (hu : A.units + 9 < cLine) (hk : KeyIs s.heap k (.ref a)) (low : (d == sysModules) = false) (hm : DictM w s.heap d ys) (h : Q (.bool (!(atM ys k).isSome)) { s with toks := s.toks + k.draws }) :
    wpAny (model prog w) A (compareOp .NotIn (.ref a) (.ref d)) Q E s := by
  have ty := hm.ty
  show wpAny _ _ (do return .bool (!(← contains (.ref d) (.ref a)))) Q E s
  refine wpAny_bind ?_
  unfold contains
  with_reducible refine wpAny_holding ?_
  refine wpAny_bind (wpAny_specialOf ty slot_dict_contains.lookup ?_)
  show wpAny _ _ (if (some (Value.builtin "dict.__contains__") == some Value.none) = true then _ else _) _ E s
  rw [if_neg (show ¬ _ from by rw [beq_builtin_none]; exact Bool.false_ne_true)]
  refine wpAny_bind (wpAny_callSpecialUnlessNone?_slot (name := Str.ofString "__contains__") ty slot_dict_contains (wpAny_call_entry slot_dict_contains ty entry_dict_contains ?_ (args_dict_contains _ _)))
  show wpAny _ _ (dictGet d (.ref a) >>= _) _ _ s
  refine wpAny_bind (get_any (A := A.in1) (by show A.units + 1 + 8 < _; omega) hk tup_shape.1 (tup_shape.2 _) hm ?_)
  cases e : atM ys k with
  | some p =>
    rw [e] at h
    exact wpAny_pure ⟨_, rfl, wpAny_truthy_bool (wpAny_pure h)⟩
  | none =>
    rw [e] at h
    exact wpAny_bind (wpAny_pendingKey_other low (wpAny_pure ⟨_, rfl, wpAny_truthy_bool (wpAny_pure h)⟩))
theorem item_any {a : Addr} {u : Value} {Q : Value → Shared → Prop} (hu : A.units + 9 < cLine) (hk : KeyIs s.heap k (.ref a)) (hm : DictM w s.heap d ys) (e : atM ys k = some u) (h : Q u { s with toks := s.toks + k.draws }) : wpAny (model prog w) A (getItem (.ref d) (.ref a)) Q E s := by
  have ty := hm.ty
  unfold getItem
  with_reducible refine wpAny_holding ?_
  refine wpAny_bind (wpAny_sequenceKey ty (by decide) ?_)
  refine wpAny_bind (wpAny_callSpecial?_slot (name := Str.ofString "__getitem__") ty slot_dict_getitem (wpAny_call_entry slot_dict_getitem ty entry_dict_getitem ?_ (args_dict_getitem _ _)))
  show wpAny _ _ (dictGet d (.ref a) >>= _) _ _ s
  refine wpAny_bind (get_any (A := A.in1) (by show A.units + 1 + 8 < _; omega) hk tup_shape.1 (tup_shape.2 _) hm ?_)
  rw [e]
  exact wpAny_pure ⟨u, rfl, wpAny_pure h⟩
theorem KeyIs.keeps {h h' : Heap} {o : Obj} {es : Array DictEntry} {ep : Nat} {v : Value} (x : KeyIs h k v) (eo : h.get? d = some o) (ed : o.data = .dict es ep) (sb : Heap.SameBut d h h') : KeyIs h' k v := ⟨NestedIs.at (fun b ob vs n hb hc => by
    refine (sb.2 b fun e => ?_).trans hb
    subst e
    rw [eo] at hb
    cases hb
    rw [ed] at hc
    cases hc) k _ x.1, x.2⟩
/-- d[k] = v, k a new key -/
theorem put_any {v : Value} {Q : Unit → Shared → Prop} (hu : A.units + 9 < cLine) (hk : KeyIs s.heap k kv) (sh : shapeK kv) (ns : NotAllStr kv ys) (hm : DictM w s.heap d ys) (no : atM ys k = none) (sz : ys.length ≤ sizeLine)
    (h : ∀ h', DictM w h' d (ys ++ [(k, kv, v)]) → Heap.SameBut d s.heap h' → Q () { s with heap := h', toks := s.toks + k.draws }) : wpAny (model prog w) A (setItem (.ref d) kv v) Q E s := by
  have ty := hm.ty
  unfold setItem
  with_reducible refine wpAny_holding ?_
  refine wpAny_bind (wpAny_sequenceKey ty (by decide) ?_)
  refine wpAny_bind (wpAny_callSpecial?_slot (name := Str.ofString "__setitem__") ty slot_dict_setitem (wpAny_call_entry slot_dict_setitem ty entry_dict_setitem ?_ (args_dict_setitem _ _ _)))
  show wpAny _ _ (Builtin.Dict.notOrdered "__setitem__" ⟨[.ref d, kv, v], []⟩ >>= _) _ _ s
  refine wpAny_bind (wpAny_notOrdered_dict ty ?_)
  show wpAny _ _ (dictSet d kv v >>= _) _ _ s
  refine wpAny_bind ?_
  obtain ⟨o, es, ep, eo, ex, ed, eq, all, nd⟩ := hm
  unfold dictSet
  with_reducible refine wpAny_holding ?_
  refine wpAny_bind (hash_any (A := A.in1) (by show A.units + 1 + 8 < _; omega) hk ?_)
  unfold dictSetHashed
  with_reducible refine wpAny_holding ?_
  refine wpAny_bind (find_any (A := A.in1) (s := { s with toks := s.toks + k.draws }) (by show A.units + 1 + 8 < _; omega) hk eo ed eq all nd sh (notAllStr_at eq ns) (fun nn => ?_) fun j p hj => ?_)
  · have kn : k ∉ ys.map (·.1) := fun z => by
      obtain ⟨y, hy, e⟩ := List.mem_map.mp z
      obtain ⟨j, hj⟩ := List.mem_iff_getElem?.mp hy
      exact nn j y.2 (by rw [hj, ← e])
    have el : es.size = ys.length := by rw [← Array.length_toList, eq, List.length_map]
    refine wpAny_bind (wpAny_rule (wpAny_updateDictKeys (hz := by omega) (s := { s with toks := s.toks + k.draws }) eo ed (wpAny_pure ⟨.none, rfl, wpAny_pure (h _ ?_ (Heap.SameBut.update ..))⟩)))
    refine ⟨_, _, ep + 1, Heap.get?_update_self _ eo (Obj.isFreed_of_dict (Obj.data_mapDictKeys ed _)), ex.mapDictKeys _, Obj.data_mapDictKeys ed _, ?_, fun y hy => ?_, ?_⟩
    · simp [eq, entM]
    · rcases List.mem_append.mp hy with z | z
      · exact (all y z).keeps eo ed (Heap.SameBut.update ..)
      · simp only [List.mem_singleton] at z
        subst z
        exact hk.keeps eo ed (Heap.SameBut.update ..)
    · rw [List.map_append, List.nodup_append]
      refine ⟨nd, by simp, fun x hx y hy => ?_⟩
      simp only [List.map_cons, List.map_nil, List.mem_singleton] at hy
      subst hy
      exact fun e => kn (e ▸ hx)
  · rw [atM_some nd hj] at no
    cases no
/-- d.pop(k), k the last key, told by its worth -/
theorem pop_any {u kv' : Value} {Q : Value → Shared → Prop} (hu : A.units + 9 < cLine) (sh : shapeK kv) (hp : (keyPart kv).isSome = true) (hm : DictM w s.heap d (ys ++ [(k, kv', u)])) (hk : KeyIs s.heap k kv) (ns : NotAllStr kv (ys ++ [(k, kv', u)])) (sz : ys.length < sizeLine)
    (h : ∀ h', DictM w h' d ys → Heap.SameBut d s.heap h' → Q u { s with heap := h', toks := s.toks + k.draws }) : wpAny (model prog w) A (call (.builtin "dict.pop") [.ref d, kv]) Q E s := by
  have ty := hm.ty
  refine call_meetsIn F.slot_dict_pop ty F.entry_dict_pop (F.args_dict_pop_2 _ _) (S := fun A R s' => s' = s ∧ A.in1.units + 8 < cLine ∧ ∀ h', DictM w h' d ys → Heap.SameBut d s.heap h' → R (.ok (.ret u)) { s with heap := h', toks := s.toks + k.draws }) (.of_wp fun A R s' ⟨e1, hu, hh⟩ => ?_) ⟨rfl, by show A.units + 1 + 8 < _; omega, fun h' a b => h h' a b⟩
  subst e1
  obtain ⟨o, es, ep, eo, ex, ed, eq, all, nd⟩ := hm
  have el : es.size = ys.length + 1 := by rw [← Array.length_toList, eq, List.length_map, List.length_append]; rfl
  unfold Builtin.«dict.pop»
  refine wpAny_bind ?_
  unfold Builtin.Dict.keyAndDefault
  refine wpAny_bind (wpAny_notOrdered_dict ty ?_)
  show wpAny _ _ (pure (d, kv, none)) _ _ s'
  refine wpAny_pure ?_
  simp only [hp, if_true]
  refine wpAny_bind (wpAny_pure ?_)
  simp only [Bool.false_eq_true, if_false]
  refine wpAny_bind ?_
  unfold Builtin.Dict.takeOut
  with_reducible refine wpAny_holding ?_
  refine wpAny_bind (hash_any hu hk (wpAny_bind (find_any (s := { s' with toks := s'.toks + k.draws }) hu hk eo ed eq all nd sh (notAllStr_at eq ns) (fun no => ?_) fun j p hj => ?_)))
  · exact absurd (by rw [List.getElem?_append_right (Nat.le_refl _), Nat.sub_self]; rfl) (no ys.length (kv', u))
  · have last : (ys ++ [(k, kv', u)])[ys.length]? = some (k, (kv', u)) := by rw [List.getElem?_append_right (Nat.le_refl _), Nat.sub_self]; rfl
    have ej := nodup_at nd hj last
    subst ej
    rw [last] at hj
    cases hj
    refine wpAny_bind (wpAny_dictEntries (s := { s' with toks := s'.toks + k.draws }) eo ed ?_)
    rw [entM_at eq, last]
    dsimp only [Option.map]
    refine wpAny_bind (wpAny_updateDictKeys (hz := by omega) (s := { s' with toks := s'.toks + k.draws }) eo ed ?_)
    refine wpAny_pure ?_
    simp only [Option.isNone_some, Bool.false_eq_true, if_false]
    refine wpAny_bind (wpAny_letGo (wpAny_pure ⟨u, rfl, hh _ ⟨_, _, ep + 1, Heap.get?_update_self _ eo (Obj.isFreed_of_dict (Obj.data_mapDictKeys ed _)), ex.mapDictKeys _, Obj.data_mapDictKeys ed _, ?_, fun y hy => (all y (List.mem_append_left _ hy)).keeps eo ed (Heap.SameBut.update ..), ?_⟩ (Heap.SameBut.update ..)⟩))
    · have e1 : es.toList.eraseIdx ys.length = ys.map (entM w) := by
        rw [eq, List.map_append]
        rw [List.eraseIdx_append_of_length_le (by rw [List.length_map]; exact Nat.le_refl _)]
        simp
      rw [← e1]
      obtain ⟨l⟩ := es
      simp
    · rw [List.map_append] at nd
      exact (List.nodup_append.mp nd).1
end
end Mir
namespace Mir
open PySem PySem.Spec PyProof.Rows L2
variable [Tn]
/-- the entries -/
noncomputable def entE (xs : List EN) : List MN := xs.map fun x => (x.1, Value.ref x.2.1, x.2.2)
noncomputable def mixE (xs : List EN) (j : Int) (kv u : Value) : List MN := entE xs ++ [(.num j, kv, u)]
section
variable {P : Program} {w : World}
theorem entE_ent (xs : List EN) : (entE xs).map (entM w) = xs.map (entryOfKey (nestedKind P w)) := by
  unfold entE
  rw [List.map_map]
  exact List.map_congr_left fun x _ => rfl
theorem entE_keys (xs : List EN) : (entE xs).map (·.1) = xs.map (·.1) := by
  unfold entE
  rw [List.map_map]
  rfl
theorem entE_at (xs : List EN) (q : NestedKey) : atM (entE xs) q = (atKey xs q).map (·.2) := by
  unfold entE
  induction xs with
  | nil => rfl
  | cons x xs ih =>
    by_cases h : x.1 = q
    · simp [atM, atKey, List.find?_cons, h]
    · simpa [atM, atKey, List.find?_cons, h] using ih
theorem mixE_at (xs : List EN) {j : Int} {kv u : Value} {q : NestedKey} (h : q ≠ .num j) : atM (mixE xs j kv u) q = (atKey xs q).map (·.2) := by
  rw [← entE_at]
  unfold mixE atM
  rw [List.find?_append]
  cases z : (entE xs).find? fun y => decide (y.1 = q) with
  | some y => rfl
  | none =>
    have : ¬ (NestedKey.num j = q) := fun e => h e.symm
    simp [List.find?_cons, this]
end
section
variable {X : Cx} {pins : List (Addr × Obj)} {σ : L2.St} {H F : Hp} {s : Shared} {k : Nat}
theorem keys_tup : ∀ {xs : List EN} {ks : List D}, RepAll (gOf X) F (xs.map fun x => V.ref x.2.1) ks → ks.map keyOf = xs.map (fun x => some x.1) → ∀ x ∈ xs, (∃ kd, Rep (gOf X) F (.ref x.2.1) kd ∧ keyOf kd = some x.1) ∧ ∃ l, x.1 = .tup l
  | [], _, _, _, _, h => nomatch h
  | x :: xs, ks, r, e, y, h => by
    rw [List.map_cons] at r
    cases r with
    | cons r1 rr =>
      rename_i d ds
      rw [List.map_cons, List.map_cons, List.cons.injEq] at e
      rcases List.mem_cons.mp h with rfl | h
      · refine ⟨⟨d, r1, e.1⟩, ?_⟩
        have e1 := e.1
        cases r1 with
        | tup h1 h2 =>
          rw [keyOf] at e1
          obtain ⟨l, _, e2⟩ := Option.map_eq_some_iff.mp e1
          exact ⟨l, e2.symm⟩
        | _ => cases e1
      · exact keys_tup rr e.2 y h
theorem entE_is (I : L2.Inv X pins σ H s) (sF : Same F H) {xs : List EN} {ks : List D} (kr : RepAll (gOf X) F (xs.map fun x => V.ref x.2.1) ks) (ke : ks.map keyOf = xs.map (fun x => some x.1)) (dp : ∀ x ∈ xs, x.1.depth ≤ 8) : ∀ y ∈ entE xs, KeyIs s.heap y.1 y.2.1 := fun y hy => by
  obtain ⟨x, hx, rfl⟩ := List.mem_map.mp hy
  obtain ⟨⟨kd, r, e⟩, _⟩ := keys_tup (X := X) kr ke x hx
  exact ⟨nested_of I sF r e rfl, dp x hx⟩
theorem dm_of (I : L2.Inv X pins σ H s) (sF : Same F H) {p : Addr} {o : Obj} {xs : List EN} {ws : List V} {ks vs : List D} (hp : H p = some (.ext (isObj' p o))) (dd : DicO (gOf X) o xs) (dr : DR (gOf X) F xs ws ks vs) : DictM X.w s.heap p (entE xs) := by
  obtain ⟨es, ep, h1, h2⟩ := dd.dat
  exact ⟨o, es, ep, (I.hok p _ hp).1, dd.ex, h1, by rw [h2, ← entE_ent (P := X.prog)], entE_is I sF dr.kr dr.ke dd.dp, by rw [entE_keys]; exact dd.nd⟩
theorem mix_of (I : L2.Inv X pins σ H s) (sF : Same F H) {p : Addr} {o : Obj} {xs : List EN} {ks : List D} {j : Int} {u : Value} (hp : H p = some (.ext (isObj' p o))) (mo : MixO (gOf X) o xs (.inl j) u) (kr : RepAll (gOf X) F (xs.map fun x => V.ref x.2.1) ks) (ke : ks.map keyOf = xs.map (fun x => some x.1)) :
    ∃ kv, RelV (.int j) kv ∧ DictM X.w s.heap p (mixE xs j kv u) := by
  obtain ⟨es, ep, kv, h1, h2, h3⟩ := mo.dat
  have h2 : RelV (.int j) kv := h2
  refine ⟨kv, h2, o, es, ep, (I.hok p _ hp).1, mo.ex, h1, ?_, fun y hy => ?_, ?_⟩
  · rw [h3]
    unfold mixE
    rw [List.map_append, entE_ent (P := X.prog)]
    rfl
  · rcases List.mem_append.mp hy with z | z
    · exact entE_is I sF kr ke mo.dp y z
    · rw [List.mem_singleton.mp z]
      exact ⟨nested_of (k := .num j) I sF (Rep.int j) rfl h2, Nat.zero_le _⟩
  · unfold mixE
    rw [List.map_append, entE_keys, List.nodup_append]
    refine ⟨mo.nd, by simp, fun a ha b hb => ?_⟩
    obtain ⟨x, hx, rfl⟩ := List.mem_map.mp ha
    simp only [List.map_cons, List.map_nil, List.mem_singleton] at hb
    subst hb
    obtain ⟨_, l, e⟩ := keys_tup (X := X) kr ke x hx
    rw [e]
    exact fun z => nomatch z
/-- what stands behind a change -/
theorem mixO_of {p : Addr} {h' : Heap} {xs : List EN} {j : Int} {kv u : Value} (h : DictM X.w h' p (mixE xs j kv u)) (rk : RelV (.int j) kv) (hz : xs.length < sizeLine) : ∃ o, h'.get? p = some o ∧ MixO (gOf X) o xs (.inl j) u := by
  obtain ⟨o, es, ep, h1, h2, h3, h4, h5, h6⟩ := h
  refine ⟨o, h1, h2, ⟨es, ep, kv, h3, rk, ?_⟩, ?_, fun x hx => (h5 (x.1, .ref x.2.1, x.2.2) (List.mem_append_left _ (List.mem_map.mpr ⟨x, hx, rfl⟩))).2, hz⟩
  · rw [h4]
    unfold mixE
    rw [List.map_append, entE_ent (P := X.prog)]
    rfl
  · unfold mixE at h6
    rw [List.map_append, entE_keys] at h6
    exact (List.nodup_append.mp h6).1
theorem dicM_of {p : Addr} {h' : Heap} {xs : List EN} (h : DictM X.w h' p (entE xs)) (hz : xs.length ≤ sizeLine) : ∃ o, h'.get? p = some o ∧ DicO (gOf X) o xs := by
  obtain ⟨o, es, ep, h1, h2, h3, h4, h5, h6⟩ := h
  refine ⟨o, h1, h2, ⟨es, ep, h3, ?_⟩, ?_, fun x hx => (h5 (x.1, .ref x.2.1, x.2.2) (List.mem_map.mpr ⟨x, hx, rfl⟩)).2, hz⟩
  · rw [h4, entE_ent (P := X.prog)]
  · rw [entE_keys] at h6
    exact h6
end
noncomputable def ixM (a i : D) : Res D := match a with
  | .mix ks vs (.inl _) _ => match keyT i with
    | some q => match getK ks vs q with
      | some d => .ok d
      | none => .bad
    | none => .bad
  | a => ixD a i
noncomputable def notInM (x xs : D) : Res D := match xs with
  | .mix ks _ (.inl _) _ => match keyT x with
    | some q => .ok (.bl (!hasK ks q))
    | none => .bad
  | xs => notInD x xs
theorem ne_ixM : NoEr2 ixM := fun a b e z => by
  unfold ixM at z
  split at z
  · split at z
    · split at z <;> cases z
    · cases z
  · exact ne_ixD _ _ _ z
theorem ne_notInM : NoEr2 notInM := fun a b e z => by
  unfold notInM at z
  split at z
  · split at z <;> cases z
  · exact ne_notInD _ _ _ z
theorem keyT_tup {d : D} {q : NestedKey} (h : keyT d = some q) : ∃ l, q = .tup l := by
  obtain ⟨⟨xs, rfl⟩, e, _⟩ := keyT_some h
  rw [keyOf] at e
  obtain ⟨l, _, e2⟩ := Option.map_eq_some_iff.mp e
  exact ⟨l, e2.symm⟩
section
variable {G : GC} {F H : Hp}
theorem RdD.mixR {v : V} {ks vs : List D} {k : Key} {x : D} (s : Same F H) (h : RdD G F H v (.mix ks vs k x)) : ∃ a o xs ws u y, v = .ref a ∧ H a = some (.ext (isObj' a o)) ∧ (a == sysModules) = false ∧ MixO G o xs k u ∧ DR G F xs ws ks vs ∧ RelV y u ∧ Rep G F y x := by
  rcases h with h | ⟨A, h⟩
  · cases h with
    | mix h1 h2 h3 h4 h5 h6 h7 h8 h9 => exact ⟨_, _, _, _, _, _, rfl, s _ _ h1, h2, h3, ⟨h4, h5, h6, h7⟩, h8, h9⟩
  · cases h with
    | mix _ h1 _ h2 h3 h4 h5 h6 h7 h8 h9 => exact ⟨_, _, _, _, _, _, rfl, h1, h2, h3, ⟨h4, h5, h6, h7⟩, h8, h9⟩
end
section
variable {X : Cx} {W : Wi} {k : Nat} {a b c e : Expr} {fa fb fe : Env → Res D} {pos : Pos}
/-- such a dict and a tuple -/
noncomputable def rDM (X : Cx) (P : List EN → NestedKey → Hp → Prop) : V → V → Hp → Prop := fun x y H => ∃ (F : Hp) (p b : Addr) (o : Obj) (xs : List EN) (j : Int) (u : Value) (ws : List V) (ks vs : List D) (kd : D) (q : NestedKey), x = .ref p ∧ y = .ref b ∧ Same F H ∧ H p = some (.ext (isObj' p o)) ∧ (p == sysModules) = false ∧
  MixO (gOf X) o xs (.inl j) u ∧ DR (gOf X) F xs ws ks vs ∧ Rep (gOf X) F (.ref b) kd ∧ keyT kd = some q ∧ P xs q H
theorem ix_mix (hr : Room k X.A) : IxR X (fun x y H Q => rDM X (fun xs q H => ∃ e v, atKey xs q = some e ∧ RelV v e.2 ∧ Q v H) x y H) := by
  intro value slice pins s σ H x y u1 u2 Q I r1 r2 h hs
  obtain ⟨F, p, b, o, xs, j, u, ws, ks, vs, kd, q, rfl, rfl, sF, hp, hn, mo, dr, rk, hk, e, v, he, rv, hq⟩ := h
  cases r1
  cases r2
  have hu := hr.un
  obtain ⟨kv, rkv, dm⟩ := mix_of I sF hp mo dr.kr dr.ke
  obtain ⟨l, rfl⟩ := keyT_tup hk
  exact tail_any dm.ty slot_dict_getitem.lookup (item_any (u := e.2) (by omega) (key_is I sF rk hk) dm (by rw [mixE_at xs (q := .tup l) (by intro z; cases z), he]; rfl) ⟨v, H, I.tok _, rv, hq⟩) hs
theorem op_notInMix (hr : Room k X.A) : OpR X (compareOp .NotIn) (fun y x H Q => rDM X (fun xs q H => Q (.bl (!(atKey xs q).isSome)) H) x y H) := by
  intro pins s σ H y x u2 u1 Q I r2 r1 h
  obtain ⟨F, p, b, o, xs, j, u, ws, ks, vs, kd, q, rfl, rfl, sF, hp, hn, mo, dr, rk, hk, hq⟩ := h
  cases r1
  cases r2
  have hu := hr.un
  obtain ⟨kv, rkv, dm⟩ := mix_of I sF hp mo dr.kr dr.ke
  obtain ⟨l, rfl⟩ := keyT_tup hk
  refine notIn_any (by omega) (key_is I sF rk hk) hn dm ?_
  rw [mixE_at xs (q := .tup l) (by intro z; cases z), Option.isSome_map]
  exact ⟨.bl _, H, I.tok _, rfl, hq⟩
theorem re_ixM (hr : Room k X.A) (ha : RE X W .R a fa) (hb : RE X W .R b fb) (hs : PlainIx b := by intro _ _; rfl) : RE X W .S (.Subscript a b pos) (fun r => fa r >>= fun x => fb r >>= fun y => ixM x y) := (pe_ix ((ix_seq.or (ix_dic hr)).or (ix_mix hr)) ha hb hs).imp (t_op (fun F H x y a b d Q Ha Hb s ka kb e kk => by
  unfold ixM at e
  split at e
  · rename_i ks vs j x0
    split at e
    · rename_i q hq
      split at e <;> cases e
      rename_i hg
      obtain ⟨p, o, xs, ws, u, y0, rfl, h1, h2, h3, h4, _, _⟩ := RdD.mixR s (show RdD (gOf X) F H x _ from ka)
      obtain ⟨b', rfl, rb⟩ := key_ref (show RdD (gOf X) F H y _ from kb) hq
      rcases getK_at (q := q) h4.wv h4.ke h4.vr with ⟨z, _⟩ | ⟨d', e', v, z1, z2, z3, z4⟩
      · rw [hg] at z; cases z
      · rw [hg] at z1
        cases z1
        exact .inr ⟨F, p, b', o, xs, j, u, ws, ks, vs, _, q, rfl, rfl, s, h1, h2, h3, h4, rb, hq, e', v, z2, z3, kk v F H (Grow.refl s) z4⟩
    · cases e
  · exact .inl (ixD_ok F H x y _ b d Q Ha Hb s ka kb e kk)) ne_ixM)
theorem c_notInM (hr : Room k X.A) : Cmp X .NotIn notInM := ⟨⟨_, ((op_notInD (units65 hr)).or (op_notInDic hr)).or (op_notInMix hr), fun F H y x b a d Q Ha Hb s kb ka e kk => by
  unfold notInM at e
  split at e
  · rename_i ks vs j x0
    split at e <;> cases e
    rename_i q hq
    obtain ⟨p, o, xs, ws, u, y0, rfl, h1, h2, h3, h4, _, _⟩ := RdD.mixR s (show RdD (gOf X) F H x _ from ka)
    obtain ⟨b', rfl, rb⟩ := key_ref (show RdD (gOf X) F H y _ from kb) hq
    exact .inr ⟨F, p, b', o, xs, j, u, ws, ks, vs, _, q, rfl, rfl, s, h1, h2, h3, h4, rb, hq, by show Q _ H; rw [← hasK_at h4.ke]; exact kk _ F H (Grow.refl s) (Rep.bl _)⟩
  · exact .inl (notInD_ok F H y x b _ d Q Ha Hb s kb ka e kk)⟩, ne_notInM⟩
end
noncomputable def setMG (i : Nat) (fv fi : Env → Res D) (r : Env) : Oc := lift (fv r) r fun v => match r[i]? with
  | some (.ow .flat (.dic ks vs)) => lift (fi r) r fun n => match n with
    | .int j => if ks.length < lim then .nx (r.set i (.ow .flat (.mix ks vs (.inl j) v))) else .bad
    | _ => .bad
  | _ => .bad
noncomputable def popMG (i : Nat) (fk : Env → Res D) (r : Env) : Oc := match r[i]? with
  | some (.ow .flat (.mix ks vs (.inl j) _)) => lift (fk r) r fun n => match n with
    | .int j' => if j' = j then .nx (r.set i (.ow .flat (.dic ks vs))) else .bad
    | _ => .bad
  | _ => .bad
section
variable {G : GC} {J : L2.St → Prop} {H0 F0 F H : Hp} {fp : Nat → List Addr} {σ : L2.St} {r : Env}
theorem MS.mix (m : MS G J H0 F0 fp F σ H r) {i : Nat} {ks vs : List D} {k : Key} {x : D} (h : r[i]? = some (.ow .flat (.mix ks vs k x))) : ∃ a o xs ws u y, σ[i]? = some (some (.ref a)) ∧ H a = some (.ext (isObj' a o)) ∧ (a == sysModules) = false ∧ MixO G o xs k u ∧ DR G F xs ws ks vs ∧ RelV y u ∧ Rep G F y x ∧ fp i = [a] := by
  obtain ⟨⟨v, h1, h2⟩, _⟩ := m.ow i _ _ h
  generalize fp i = A at h2
  cases h2 with
  | mix _ e _ z1 z2 z3 z4 z5 z6 z7 z8 => exact ⟨_, _, _, _, _, _, h1, e, z1, z2, ⟨z3, z4, z5, z6⟩, z7, z8, rfl⟩
theorem MS.mixUpd (m : MS G J H0 F0 fp F σ H r) {i : Nat} {d x : D} {a : Addr} {o : Obj} {xs : List EN} {ws : List V} {ks vs : List D} {k : Key} {u : Value} {y : V} (h : r[i]? = some (.ow .flat d)) (hv : σ[i]? = some (some (.ref a))) (hf : fp i = [a]) (hn : (a == sysModules) = false) (mo : MixO G o xs k u) (dr : DR G F xs ws ks vs) (ry : RelV y u) (rx : Rep G F y x) :
    ∃ fp', MS G J H0 F0 fp' F σ (upd H a (.ext (isObj' a o))) (r.set i (.ow .flat (.mix ks vs k x))) := by
  obtain ⟨⟨v, h1, h2⟩, _⟩ := m.ow i _ _ h
  have fa := (h2.there a (by rw [hf]; simp)).1
  exact m.write (A := [a]) h hv (by rw [hf]; simp) (Own.mix rfl upd_same fa hn mo dr.wv dr.kr dr.ke dr.vr ry rx) fun b hb => .inl (by rw [hf]; exact hb)
end
section
variable {X : Cx} {W : Wi} {k m : Nat} {kk : Kd} {e iv : Expr} {fe fi : Env → Res D} {pos ps p2 apos cpos : Pos} {x : Str}
theorem set_mix (hr : Room k X.A) : PSet X (fun ov i v H Q => ∃ (F : Hp) (p : Addr) (j : Int) (o : Obj) (xs : List EN) (ws : List V) (ks vs : List D), ov = .ref p ∧ i = .int j ∧ Same F H ∧ H p = some (.ext (isObj' p o)) ∧ DicO (gOf X) o xs ∧ DR (gOf X) F xs ws ks vs ∧ xs.length < lim ∧
    ∀ o' u, RelV v u → MixO (gOf X) o' xs (.inl j) u → Q (upd H p (.ext (isObj' p o')))) := by
  intro pins s σ H ov i v uo ui u Q I ro ri rv ⟨F, p, j, o, xs, ws, ks, vs, e1, e2, sF, hp, dd, dr, hl, hq⟩
  subst e1 e2
  cases (show uo = Value.ref p from ro)
  obtain ⟨t, rfl⟩ := (show ∃ t, ui = Value.int j t from ri)
  have hu := hr.un
  have hz : xs.length < sizeLine := Nat.lt_of_lt_of_le hl lim_le
  have len : (entE xs).length ≤ sizeLine := by unfold entE; rw [List.length_map]; exact Nat.le_of_lt hz
  refine put_any (k := .num j) (ys := entE xs) (by omega) ⟨nested_of (k := .num j) I sF (Rep.int j) rfl ⟨t, rfl⟩, Nat.zero_le _⟩ trivial (fun _ _ z => nomatch z) (dm_of I sF hp dd dr) ?_ len fun h' dm sb => ?_
  · rw [entE_at]
    cases z : atKey xs (.num j) with
    | none => rfl
    | some y =>
      exfalso
      obtain ⟨x, hx, ex⟩ : ∃ x ∈ xs, x.1 = .num j := by
        unfold atKey at z
        obtain ⟨x, hx, _⟩ := Option.map_eq_some_iff.mp z
        exact ⟨x, List.mem_of_find?_eq_some hx, by simpa using List.find?_some hx⟩
      obtain ⟨_, l, e⟩ := keys_tup (X := X) dr.kr dr.ke x hx
      rw [e] at ex
      cases ex
  · obtain ⟨o', e1, e2⟩ := mixO_of (X := X) (xs := xs) (j := j) dm ⟨t, rfl⟩ hz
    exact ⟨_, d_write I (by rw [hp]; exact True.intro) sb ⟨o', e1⟩ (ext_ok e1), hq o' u rv e2⟩
theorem rs_setM (i : Nat) (hr : Room k X.A) (he : RE X W .S e fe) (hi : RE X W .R iv fi) (hN : X.N[i]? = some x := by rfl) (hv : Vis X.env.scope x := by first | exact Or.inl rfl | exact Or.inr (Or.inl rfl) | exact Or.inr (Or.inr rfl)) (hd : (x == ("__debug__" : Str)) = false := by decide)
    (hcd : (x == ("__classdict__" : Str)) = false := by decide) (ha : ∀ v, assign (.Subscript (.Name x ps) iv p2) X.env v = (do
      let ov ← holding [v] (eval (.Name x ps) X.env)
      let iv ← holding [v, ov] (eval iv X.env)
      standAt p2
      holding [v, ov, iv] (setItem ov iv v)
      release [v, ov, iv] []) := by intro _; rfl)
    (hs : swapsWithSole [.Subscript (.Name x ps) iv p2] e pos.line X.env = pure false := by rfl) (hw : swappedStores [.Subscript (.Name x ps) iv p2] e X.env = pure none := by rfl) (h1 : (assignEach [.Subscript (.Name x ps) iv p2] X.env).map (·.2) = [assign (.Subscript (.Name x ps) iv p2) X.env] := by rfl) :
    RS X W kk (.Assign [.Subscript (.Name x ps) iv p2] e pos) (setMG i fe fi) :=
  (ps_asg he (pg_sub (pe_var hN hv hd hcd) hi (set_mix hr) ha) hs hw h1).imp fun D σ H ⟨H0, F0, fp, F, r, m, o⟩ => ⟨H0, F0, fp, F, r, m, OutS.lift m o fun F' H' d gr o' v kv => by
    split at o'
    · rename_i ks vs hi
      have m' := m.grow gr
      obtain ⟨a, ob, xs, ws, h1, h2, h3, h4, h5, h6⟩ := m'.dic hi
      refine ⟨.ref a, h1, H0, F0, fp, F', r, m', OutS.lift m' o' fun F2 H2 n g2 o2 u ku => ?_⟩
      split at o2
      · rename_i j
        split at o2
        · rename_i hl
          have h5' := h5.mono g2.f
          have hh := g2.h.at _ _ h2
          refine ⟨F2, a, j, ob, xs, ws, ks, vs, rfl, RdD.int (show RdD (gOf X) F2 H2 u _ from ku), g2.sub, hh, h4, h5', by rw [h5'.len]; exact hl, fun o'' u' ru mo => ?_⟩
          obtain ⟨fp', m2⟩ := (m'.grow g2).mixUpd hi h1 h6 h3 mo h5' ru (Mir.Rep.mono g2.f kv)
          exact o2 fp' F2 σ _ (Same.refl _) m2
        · exact o2.elim
      · exact o2.elim
    · exact o'.elim⟩
theorem pe_dpopM (i : Nat) (hr : Room m X.A) (he : RE X W .R e fe) (hN : X.N[i]? = some x) (hv : Vis X.env.scope x) (hd : (x == ("__debug__" : Str)) = false) (hcd : (x == ("__classdict__" : Str)) = false) (hbase : attributeBase (.Name x ps) "pop" X.env (eval (.Name x ps) X.env) = eval (.Name x ps) X.env) (hline : (apos.endLine == cpos.line) = true)
    (hst : backTo cpos (starEach [e] X.env) = [(false, eval e X.env)]) :
    PE X (.Call (.Attribute (.Name x ps) "pop" apos) [e] [] cpos) (fun σ H Q => ∃ p, σ[i]? = some (some (.ref p)) ∧ (∃ o, H p = some (.ext (isObj' p o)) ∧ o.ExactDict) ∧ tE (gOf X) W .R fe σ H fun y H1 => ∃ (F : Hp) (o : Obj) (xs : List EN) (ws : List V) (ks vs : List D) (j : Int) (u : Value) (y0 : V), y = .int j ∧ Same F H1 ∧ H1 p = some (.ext (isObj' p o)) ∧
      MixO (gOf X) o xs (.inl j) u ∧ DR (gOf X) F xs ws ks vs ∧ RelV y0 u ∧ ∀ o', DicO (gOf X) o' xs → Q y0 (upd H1 p (.ext (isObj' p o')))) := by
  refine ⟨fun pins s σ H Q I h => ?_⟩
  obtain ⟨p, hv', ⟨o, hp, hx⟩, h⟩ := h
  refine wpAny_Call_method1_late hbase hline hst (thn ((pe_var hN hv hd hcd).run pins s σ H (fun y H1 => y = .ref p ∧ H1 = H) I ⟨_, hv', rfl, rfl⟩) fun u s1 ⟨y, H1, I1, r1, ey, eH⟩ => ?_)
  subst ey eH
  cases r1
  have ho : s1.heap.get? p = some o := (I1.hok p _ hp).1
  refine ⟨"dict", "dict.pop", F.plainAttrs_dict, F.slot_dict_pop, F.type_dict_pop, ⟨o, ho, hx.1⟩, fun a ea => by cases ea; exact ⟨o, ho, hx.2.1⟩, Calls.callWith_builtin rfl (Calls.evalArgs_plain (Calls.spliced_cons (thn (he.run pins s1 σ H1 _ I1 h) fun uk s2 ⟨y, H2, I2, r2, q⟩ => Calls.spliced_nil ?_)))⟩
  obtain ⟨F', o, xs, ws, ks, vs, j, u, y0, rfl, sF, hp2, mo, dr, ry, qq⟩ := q
  obtain ⟨t, rfl⟩ := (show ∃ t, uk = Value.int j t from r2)
  have hu := hr.un
  obtain ⟨kv, rkv, dm⟩ := mix_of I2 sF hp2 mo dr.kr dr.ke
  refine pop_any (k := .num j) (ys := entE xs) (u := u) (kv' := kv) (by omega) trivial rfl dm ⟨nested_of (k := .num j) I2 sF (Rep.int j) rfl ⟨t, rfl⟩, Nat.zero_le _⟩ (fun _ _ z => nomatch z) (by unfold entE; rw [List.length_map]; exact mo.sz) fun h' dm' sb => ?_
  obtain ⟨o', e1, e2⟩ := dicM_of (X := X) dm' (Nat.le_of_lt mo.sz)
  exact ⟨y0, _, d_write I2 (by rw [hp2]; exact True.intro) sb ⟨o', e1⟩ (ext_ok e1), ry, qq o' e2⟩
theorem rs_popM (i : Nat) (hr : Room m X.A) (he : RE X W .R e fe) (hN : X.N[i]? = some x := by rfl) (hv : Vis X.env.scope x := by first | exact Or.inl rfl | exact Or.inr (Or.inl rfl) | exact Or.inr (Or.inr rfl)) (hd : (x == ("__debug__" : Str)) = false := by decide)
    (hcd : (x == ("__classdict__" : Str)) = false := by decide) (hs : swapsWith (.Call (.Attribute (.Name x ps) "pop" apos) [e] [] cpos) none pos.line X.env = pure false := by rfl)
    (hbase : attributeBase (.Name x ps) "pop" X.env (eval (.Name x ps) X.env) = eval (.Name x ps) X.env := by rfl) (hline : (apos.endLine == cpos.line) = true := by rfl) (hst : backTo cpos (starEach [e] X.env) = [(false, eval e X.env)] := by rfl) :
    RS X W kk (.Expr (.Call (.Attribute (.Name x ps) "pop" apos) [e] [] cpos) pos) (popMG i fe) :=
  (ps_expr (pe_dpopM i hr he hN hv hd hcd hbase hline hst) hs).imp fun D σ H ⟨H0, F0, fp, F, r, m, o⟩ => by
    unfold popMG at o
    split at o
    · rename_i ks vs j x0 hi
      obtain ⟨a, ob, xs, ws, u, y, h1, h2, h3, h4, h5, h6, h7, h8⟩ := m.mix hi
      refine ⟨a, h1, ⟨ob, h2, h4.ex⟩, H0, F0, fp, F, r, m, o.lift m fun F' H' d gr o' uu ku => ?_⟩
      split at o'
      · rename_i j'
        split at o'
        · rename_i hj
          subst hj
          have h5' := h5.mono gr.f
          refine ⟨F', ob, xs, ws, ks, vs, j', u, y, RdD.int (show RdD (gOf X) F' H' uu _ from ku), gr.sub, gr.h.at _ _ h2, h4, h5', h6, fun o2 dd => ?_⟩
          obtain ⟨fp', m'⟩ := (m.grow gr).dicUpd hi h1 h8 h3 dd h5'
          exact o' fp' F' σ _ (Same.refl _) m'
        · exact o'.elim
      · exact o'.elim
    · exact o.elim
end
mutual
/-- nowhere within d stands such a dict -/
noncomputable def apartM : D → Bool
  | .lst ds => apartsM ds
  | .tup ds => apartsM ds
  | .dic ks vs => apartsM ks && apartsM vs
  | .dct _ vs => apartsM vs
  | .mix .. => false
  | .obj _ vs => apartsM vs
  | .exc _ vs => apartsM vs
  | _ => true
noncomputable def apartsM : List D → Bool
  | [] => true
  | d :: ds => apartM d && apartsM ds
end
/-- at b stands nothing but such a dict -/
structure HolM (G : GC) (F : Hp) (b : Addr) : Prop where
  nt : ∀ xs, ¬ Rd F b (.tup xs)
  nl : ∀ xs, F b ≠ some (.lst xs)
  nr : ∀ xs, ¬ Rd F b (.lst xs)
  nd : ∀ o xs, F b = some (.ext (isObj' b o)) → ¬ DicO G o xs
  nk : ∀ kvs, F b ≠ some (.dK kvs)
  ni : ∀ C dx fs, F b ≠ some (.ins C dx fs)
  ne : ∀ C d, F b ≠ some (.ext (isExc b C d))
  nx : ∀ fs, F b ≠ some (.xd fs)
section
variable {G : GC} {F F2 : Hp} {b : Addr}
mutual
theorem Rep.thinM (s : ∀ a o, a ≠ b → F a = some o → F2 a = some o) (q : HolM G F b) : ∀ {v : V} {d : D}, Rep G F v d → apartM d = true → Rep G F2 v d
  | _, _, .non, _ => .non
  | _, _, .bl b, _ => .bl b
  | _, _, .int i, _ => .int i
  | _, _, .str x, _ => .str x
  | _, _, .tup (a := a) h r, p => by
    unfold apartM at p
    refine .tup ?_ (RepAll.thinM s q r p)
    rcases h with h | h
    · exact .inl (Rd.thin s (fun e => by subst e; exact q.nt _ h) h)
    · exact .inr h
  | _, _, .lst (a := a) h r, p => by
    unfold apartM at p
    exact .lst (s _ _ (fun e => by subst e; exact q.nl _ h) h) (RepAll.thinM s q r p)
  | _, _, .scr (a := a) h, p => by
    rcases h with h | h
    · exact .scr (.inl (Rd.thin s (fun e => by subst e; exact q.nr _ h) h))
    · exact .scr (.inr h)
  | _, _, .dic (a := a) h1 h2 h3 h4 h5 h6 h7, p => by
    unfold apartM at p
    rw [Bool.and_eq_true] at p
    exact .dic (s _ _ (fun e => by subst e; exact q.nd _ _ h1 h3) h1) h2 h3 h4 (RepAll.thinM s q h5 p.1) h6 (RepAll.thinM s q h7 p.2)
  | _, _, .dct (a := a) h z r, p => by
    unfold apartM at p
    exact .dct (s _ _ (fun e => by subst e; exact q.nk _ h) h) z (RepAll.thinM s q r p)
  | _, _, .dctK h z r, p => by
    unfold apartM at p
    exact .dctK h z (RepAll.thinM s q r p)
  | _, _, .mix .., p => by unfold apartM at p; cases p
  | _, _, .opq, _ => .opq
  | _, _, .obj (a := a) h z r, p => by
    unfold apartM at p
    exact .obj (s _ _ (fun e => by subst e; exact q.ni _ _ _ h) h) z (RepAll.thinM s q r p)
  | _, _, .exc (a := a) h z, _ => .exc (s _ _ (fun e => by subst e; exact q.ne _ _ h) h) z
  | _, _, .excF (a := a) (dx := dx) h1 h2 z r, p => by
    unfold apartM at p
    exact .excF (s _ _ (fun e => by subst e; exact q.ne _ _ h1) h1) (s _ _ (fun e => by subst e; exact q.nx _ h2) h2) z (RepAll.thinM s q r p)
  | _, _, .cls h, _ => .cls h
  | _, _, .ty n, _ => .ty n
theorem RepAll.thinM (s : ∀ a o, a ≠ b → F a = some o → F2 a = some o) (q : HolM G F b) : ∀ {vs : List V} {ds : List D}, RepAll G F vs ds → apartsM ds = true → RepAll G F2 vs ds
  | _, _, .nil, _ => .nil
  | _, _, .cons r t, p => by
    unfold apartsM at p
    rw [Bool.and_eq_true] at p
    exact .cons (Rep.thinM s q r p.1) (RepAll.thinM s q t p.2)
end
theorem ExcIs.thinM (s : ∀ a o, a ≠ b → F a = some o → F2 a = some o) (q : HolM G F b) {cls : Value} {dd : Option Addr} {e : D} (h : ExcIs G F cls dd e) (p : apartM e = true) : ExcIs G F2 cls dd e := by
  obtain ⟨c, ws, vs, rfl, hc, r, h⟩ := h
  unfold apartM at p
  refine ⟨c, ws, vs, rfl, hc, RepAll.thinM s q r p, ?_⟩
  rcases h with h | ⟨dx, h1, h2, h3⟩
  · exact .inl h
  · exact .inr ⟨dx, h1, s _ _ (fun e => by subst e; exact q.nx _ h2) h2, h3⟩
end
section
variable {G : GC} {J : L2.St → Prop} {H0 F0 F H : Hp} {fp : Nat → List Addr} {σ : L2.St} {r : Env}
theorem MS.lendM (m : MS G J H0 F0 fp F σ H r) {i : Nat} {ks0 vs0 : List D} {j : Int} {x0 : D} (e : r[i]? = some (.ow .flat (.mix ks0 vs0 (.inl j) x0)))
    (hx : ∀ b ob, H b = some (.ext (isObj' b ob)) → ∃ h : Heap, h.get? b = some ob) : ∃ F1, MS G J H0 F0 fp F1 σ H (Mir.freeze i r) ∧ ∀ F' H', Grow F1 H F' H' → ∃ F2, Grow F H F2 H' ∧ (∀ v d, Rep G F' v d → apartM d = true → Rep G F2 v d) ∧
      ∀ cls dd x, ExcIs G F' cls dd x → apartM x = true → ExcIs G F2 cls dd x := by
  refine ⟨_, m.freezeX e, fun F' H' g => ?_⟩
  obtain ⟨⟨v, h1, h2⟩, h3⟩ := m.ow i .flat _ e
  obtain ⟨b, hA, O, hO, hol⟩ : ∃ b, fp i = [b] ∧ ∃ O, H b = some O ∧ ∀ F' : Hp, F' b = some O → HolM G F' b := by
    generalize fp i = A at h2 h3
    cases h2 with
    | mix h0 q1 q2 z1 z2 z3 z4 z5 z6 z7 z8 =>
      rename_i a ob xs0 ws u w
      obtain ⟨hp, hpe⟩ := hx _ _ q1
      obtain ⟨es, ep, kv, hd, rk, hes⟩ := z2.dat
      refine ⟨a, rfl, _, q1, fun F' hF => ?_⟩
      refine ⟨fun xs hh => ?_, fun xs hh => ?_, fun xs hh => ?_, fun o2 xs hh dd => ?_, fun kvs hh => ?_, fun C dx fs hh => ?_, fun C d hh => ?_, fun fs hh => ?_⟩
      · rcases hh with hh | ⟨_, hh⟩ <;> · rw [hF] at hh; cases hh
      · rw [hF] at hh; cases hh
      · rcases hh with hh | ⟨_, hh⟩ <;> · rw [hF] at hh; cases hh
      · rw [hF] at hh
        have hh : isObj' a ob = isObj' a o2 := by
          have := Option.some.inj hh
          injection this
        have : hp.get? a = some o2 := by
          have q := congrFun hh hp
          exact q.mp hpe
        rw [hpe] at this
        cases this
        obtain ⟨es2, ep2, hd2, hes2⟩ := dd.dat
        rw [hd] at hd2
        cases hd2
        rw [hes] at hes2
        obtain ⟨t, ekv⟩ := (show ∃ t, kv = Value.int j t from rk)
        have hm : (⟨(mixKind G.P G.w).hash (.inl j), kv, u⟩ : DictEntry) ∈ xs.map (entryOfKey (nestedKind G.P G.w)) := by rw [← hes2]; exact List.mem_append_right _ (List.mem_singleton.mpr rfl)
        obtain ⟨y, _, ey⟩ := List.mem_map.mp hm
        have := congrArg DictEntry.key ey
        rw [ekv] at this
        cases this
      · rw [hF] at hh; cases hh
      · rw [hF] at hh; cases hh
      · rw [hF] at hh
        have hh : isObj' a ob = isExc a C d := by
          have := Option.some.inj hh
          injection this
        obtain ⟨oe, vs', w1, _, _, w2, _⟩ : isExc a C d hp := by rw [← hh]; exact hpe
        rw [hpe] at w1
        cases w1
        rw [hd] at w2
        cases w2
      · rw [hF] at hh; cases hh
  rw [hA] at g
  have s1 : share F H [b] b = some O := by unfold share; simp [hO]
  have hol := hol F' (g.f _ _ s1)
  have sF : F b = none := by
    have := (h2.there b (by rw [hA]; exact List.mem_cons_self)).1
    exact this
  let F2 : Hp := fun a => if a = b then none else F' a
  have sp : ∀ a o, a ≠ b → F' a = some o → F2 a = some o := fun a o ne h => by
    show (if a = b then none else F' a) = some o
    rw [if_neg ne]; exact h
  have nb : ∀ a, a ≠ b → share F H [b] a = F a := fun a ne => share_ne (by simpa using ne)
  have uh : Stays F H F2 H' := Stays.unshare g.h m.sub g.f (by rw [← hA]; exact fun a ha => (h2.there a ha).2) (by rw [← hA]; exact h2.nt) (by rw [← hA]; exact h2.nc) fun a ha => if_neg (by simpa using ha)
  refine ⟨F2, ⟨uh, fun a o h => ?_, fun a o h => ?_, fun a o h => ?_⟩, fun v d hr p => Rep.thinM sp hol hr p, fun cls dd x hr p => ExcIs.thinM sp hol hr p⟩
  · have ne : a ≠ b := fun z => by subst z; rw [sF] at h; cases h
    exact sp a o ne (g.f a o (by rw [nb a ne]; exact h))
  · have h : (if a = b then none else F' a) = some o := h
    split at h
    · cases h
    · exact g.sub a o h
  · have h : (if a = b then none else F' a) = some o := h
    split at h
    · cases h
    · rename_i ne
      rcases g.new a o h with z | z
      · rw [nb a ne] at z; exact .inl z
      · exact .inr z
end
noncomputable def lendMR (i : Nat) (f : Env → Res D) (r : Env) : Res D := match r[i]? with
  | some (.ow .flat (.mix _ _ (.inl _) _)) => match f (freeze i r) with
    | .ok d => if apartM d = true then .ok d else .bad
    | .er e => if apartM e = true then .er e else .bad
    | .bad => .bad
  | some (.ow _ _) => .bad
  | _ => f r
theorem re_lendM (i : Nat) {X : Cx} {W : Wi} {e : Expr} {f : Env → Res D} (h : RE X W .S e f) : RE X W .S e (lendMR i f) := by
  refine ⟨fun pins s σ H Q I hw => h.run pins s σ H Q I ?_⟩
  have hx : ∀ b ob, H b = some (.ext (isObj' b ob)) → ∃ h : Heap, h.get? b = some ob := fun b ob q => by
    obtain ⟨z, _⟩ := (show ObjOk X.prog X.w H s.heap b (.ext (isObj' b ob)) from I.hok b _ q)
    exact ⟨s.heap, z⟩
  obtain ⟨H0, F0, fp, F, r, m, o⟩ := hw
  unfold lendMR at o
  split at o
  · rename_i ks vs j x er
    obtain ⟨F1, m1, back⟩ := m.lendM er hx
    refine ⟨H0, F0, fp, F1, _, m1, ?_⟩
    cases hf : f (freeze i r) with
    | ok d =>
      rw [hf] at o
      intro F' H' g v hv
      obtain ⟨F2, g2, b1, _⟩ := back F' H' g
      dsimp only at o
      split at o
      · rename_i p
        exact o F2 H' g2 v (b1 v d hv p)
      · exact o.elim
    | er x =>
      rw [hf] at o
      intro cls dd F' H' g hv
      obtain ⟨F2, g2, _, b2⟩ := back F' H' g
      dsimp only at o
      split at o
      · rename_i p
        exact o cls dd F2 H' g2 (b2 cls dd x hv p)
      · exact o.elim
    | bad => rw [hf] at o; exact o.elim
  · exact o.elim
  · exact ⟨H0, F0, fp, F, r, m, o⟩
end Mir
namespace Mir
open PySem PySem.Spec PyProof.Rows L2
section
variable {prog : Program} {w : World} {A : Around} {R : Result → Shared → Prop} {I : Addr} {fp wr : List Addr} {n : Nat} {P : Nat → Value → Prop} {St : Nat → Heap → Prop} {Kp : Heap → Prop}
/-- a comparison in the states that keep what is compared -/
noncomputable def CmpK (prog : Program) (w : World) (A : Around) (Kp : Heap → Prop) (P : Nat → Value → Prop) (bt : Nat → Nat → Bool) : Prop :=
  ∀ i j vi vj (s : Shared) (Q : Value → Shared → Prop) (E : Value → Shared → Prop), Kp s.heap → P i vi → P j vj → Q (.bool (bt i j)) s → wpAny (model prog w) A (richCompare .Lt vi vj) Q E s
theorem min_loopK (W : Walks prog w A.in1 I fp wr n P St) (bt : Nat → Nat → Bool) (hcmp : CmpK prog w A.in1 Kp P bt) (S : Addr) (hSf : S ∉ fp) (hK : ∀ h h', Kp h → (∀ b o, b ∉ wr → b ≠ S → h.get? b = some o → h'.get? b = some o) → Kp h') :
    ∀ (k j : Nat) (s : Shared) (vb : Value) (c : Nat), n - (j + 1) = k → j + 1 ≤ n → St (j + 1) s.heap → Kp s.heap → P (argBest bt j) vb →
    s.heap.get? S = some { cls := .type "list", dict := none, data := .seq #[vb, vb] c, slots := #[] } →
    (∀ v h' tk, P (argBest bt (n - 1)) v → (∀ b o, b ∉ wr → b ≠ S → s.heap.get? b = some o → h'.get? b = some o) → R (.ok (.ret v)) { s with heap := h', toks := tk }) →
    codeAny (model prog w) A (.builtin "min.loop" ⟨[.ref I, .none, .ref S], []⟩) R s := by
  have hSw : S ∉ wr := fun h => hSf (W.sub _ h)
  have hname : (toString "min" ++ toString ".loop" : String) = "min.loop" := by decide
  intro k
  induction k with
  | zero =>
    intro j s vb c hk hj hst hkp hPb hS hR
    have hin : j + 1 = n := by omega
    refine codeAny_builtin F.entry_min_loop ?_
    rw [Around.under_plainId F.plain_min_loop _]
    show wpAny _ A.in1 (seqItems? (.ref S) >>= _) _ _ s
    refine wpAny_bind (wpAny_seqItems hS rfl ?_)
    show wpAny _ A.in1 (tryCatch (pyNext (.ref I)) _ >>= _) _ _ s
    refine wpAny_bind (wpAny_tryCatch (W.done s _ _ (hin ▸ hst) fun h' tk hk' => ?_))
    have hS' := hk' S _ hSw hS
    show wpAny _ A.in1 (updateSeq S (fun _ => #[]) >>= _) _ _ _
    refine wpAny_bind ?_
    refine wpAny_updateSeq hS' rfl (wpAny_bind (wpAny_letGo (wpAny_pure ?_)))
    refine hR vb _ tk (by rw [← hin]; exact hPb) fun b o hbw hbS e => (Heap.get?_update_other _ _ (Ne.symm hbS)).trans (hk' b o hbw e)
  | succ k ih =>
    intro j s vb c hk hj hst hkp hPb hS hR
    have hlt : j + 1 < n := by omega
    refine codeAny_builtin F.entry_min_loop ?_
    rw [Around.under_plainId F.plain_min_loop _]
    show wpAny _ A.in1 (seqItems? (.ref S) >>= _) _ _ s
    refine wpAny_bind (wpAny_seqItems hS rfl ?_)
    show wpAny _ A.in1 (tryCatch (pyNext (.ref I)) _ >>= _) _ _ s
    refine wpAny_bind (wpAny_tryCatch (W.item (j + 1) s _ _ hlt hst fun v h' tk hP hst' hk' => ?_))
    have hS' := hk' S _ hSw hS
    have hkp' : Kp h' := hK _ _ hkp fun b o hbw _ e => hk' b o hbw e
    show wpAny _ A.in1 (tryCatch (holding [v, v] (richCompare .Lt v vb >>= _)) _ >>= _) _ _ _
    refine wpAny_bind (wpAny_tryCatch (wpAny_holding (wpAny_bind (hcmp (j + 1) (argBest bt j) v vb _ _ _ hkp' hP hPb ?_))))
    refine wpAny_bind (wpAny_holding (wpAny_truthy_bool ?_))
    refine wpAny_bind (wpAny_letGo (wpAny_pure ?_))
    cases hb : bt (j + 1) (argBest bt j) with
    | true =>
      simp only [if_true]
      refine wpAny_bind ?_
      refine wpAny_updateSeq hS' rfl (wpAny_bind (wpAny_letGo ?_))
      rw [hname]
      refine wpAny_pure ⟨plainId_quiet F.plain_min_loop _, ih (j + 1) _ v _ (by omega) hlt (W.frame _ _ _ hst' fun b hbf o e => ?_) (hK _ _ hkp' fun b o _ hbS e => (Heap.get?_update_other _ _ (Ne.symm hbS)).trans e) (by simp only [argBest, hb, if_true]; exact hP) (Heap.get?_update_self _ hS' rfl)
        fun v' h'' tk'' hP' hk'' => ?_⟩
      · exact (Heap.get?_update_other _ _ (fun h : S = b => hSf (by rw [h]; exact hbf))).trans e
      · exact hR v' h'' tk'' hP' fun b o hbw hbS e => hk'' b o hbw hbS ((Heap.get?_update_other _ _ (Ne.symm hbS)).trans (hk' b o hbw e))
    | false =>
      simp only [Bool.false_eq_true, if_false]
      refine wpAny_bind (wpAny_letGo ?_)
      rw [hname]
      refine wpAny_pure ⟨plainId_quiet F.plain_min_loop _, ih (j + 1) _ vb c (by omega) hlt hst' hkp' (by simp only [argBest, hb, Bool.false_eq_true, if_false]; exact hPb) hS' fun v' h'' tk'' hP' hk'' => ?_⟩
      exact hR v' h'' tk'' hP' fun b o hbw hbS e => hk'' b o hbw hbS (hk' b o hbw e)
theorem min_loop_firstK (W : Walks prog w A.in1 I fp wr n P St) (bt : Nat → Nat → Bool) (hcmp : CmpK prog w A.in1 Kp P bt) (S : Addr) (hSf : S ∉ fp) (hK : ∀ h h', Kp h → (∀ b o, b ∉ wr → b ≠ S → h.get? b = some o → h'.get? b = some o) → Kp h') (hn : 0 < n) {s : Shared} {c : Nat} (hst : St 0 s.heap) (hkp : Kp s.heap)
    (hS : s.heap.get? S = some { cls := .type "list", dict := none, data := .seq #[] c, slots := #[] })
    (hR : ∀ v h' tk, P (argBest bt (n - 1)) v → (∀ b o, b ∉ wr → b ≠ S → s.heap.get? b = some o → h'.get? b = some o) → R (.ok (.ret v)) { s with heap := h', toks := tk }) :
    codeAny (model prog w) A (.builtin "min.loop" ⟨[.ref I, .none, .ref S], []⟩) R s := by
  have hSw : S ∉ wr := fun h => hSf (W.sub _ h)
  have hname : (toString "min" ++ toString ".loop" : String) = "min.loop" := by decide
  refine codeAny_builtin F.entry_min_loop ?_
  rw [Around.under_plainId F.plain_min_loop _]
  show wpAny _ A.in1 (seqItems? (.ref S) >>= _) _ _ s
  refine wpAny_bind (wpAny_seqItems hS rfl ?_)
  show wpAny _ A.in1 (tryCatch (pyNext (.ref I)) _ >>= _) _ _ s
  refine wpAny_bind (wpAny_tryCatch (W.item 0 s _ _ hn hst fun v h' tk hP hst' hk' => ?_))
  have hS' := hk' S _ hSw hS
  have hkp' : Kp h' := hK _ _ hkp fun b o hbw _ e => hk' b o hbw e
  show wpAny _ A.in1 (updateSeq S (fun _ => #[v, v]) >>= _) _ _ _
  refine wpAny_bind ?_
  refine wpAny_updateSeq hS' rfl ?_
  rw [hname]
  refine wpAny_pure ⟨plainId_quiet F.plain_min_loop _, min_loopK W bt hcmp S hSf hK _ 0 _ v _ rfl hn (W.frame _ _ _ hst' fun b hbf o e => ?_) (hK _ _ hkp' fun b o _ hbS e => (Heap.get?_update_other _ _ (Ne.symm hbS)).trans e) hP (Heap.get?_update_self _ hS' rfl) fun v' h'' tk'' hP' hk'' => ?_⟩
  · exact (Heap.get?_update_other _ _ (fun h : S = b => hSf (by rw [h]; exact hbf))).trans e
  · exact hR v' h'' tk'' hP' fun b o hbw hbS e => hk'' b o hbw hbS ((Heap.get?_update_other _ _ (Ne.symm hbS)).trans (hk' b o hbw e))
end
section
variable {prog : Program} {w : World} {A : Around} {E : Value → Shared → Prop} {s : Shared}
theorem call_min_twoK {a b : Value} {Q : Value → Shared → Prop}
    (h : wpAny (model prog w) A.in1 (pyIter (.ref s.heap.objs.size)) (fun it s₂ => ∃ I fp wr n P St bt, ∃ Kp : Heap → Prop, it = .ref I ∧ Walks prog w A.in1 I fp wr n P St ∧ St 0 s₂.heap ∧ Kp s₂.heap ∧ (∀ b ∈ fp, b < s₂.heap.objs.size) ∧ 0 < n ∧ CmpK prog w A.in1 Kp P bt ∧
      (∀ h h', Kp h → (∀ b o, b ∉ wr → b ≠ s₂.heap.objs.size → h.get? b = some o → h'.get? b = some o) → Kp h') ∧
      ∀ v h' tk, P (argBest bt (n - 1)) v → (∀ b o, b ∉ wr → s₂.heap.get? b = some o → h'.get? b = some o) → Q v { s₂ with heap := h', toks := tk }) E
      { s with heap := s.heap.push { cls := .type "tuple", data := .seq #[a, b] } }) :
    wpAny (model prog w) A (call (.builtin "min") [a, b]) Q E s := by
  have hname : (toString "min" ++ toString ".loop" : String) = "min.loop" := by decide
  refine call_function_tree F.kind_min F.plain_min F.entry_min (F.args_min2 _ _) ?_
  show wpAny _ A.in1 (Builtin.Builtins.bindParams "min" ["key", "default"] 0 ⟨[], []⟩ >>= _) _ _ s
  refine wpAny_bind (wpAny_of_eq (show Builtin.Builtins.bindParams "min" ["key", "default"] 0 ⟨[], []⟩ = pure [none, none] from rfl) ?_)
  show wpAny _ A.in1 (newTuple [a, b] >>= _) _ _ s
  refine wpAny_bind (wpAny_newObj_type ?_)
  refine wpAny_bind (wpAny_mono h (fun it s₂ h₂ => ?_) fun _ _ e => e)
  obtain ⟨I, fp, wr, n, P, St, bt, Kp, rfl, W, hst, hkp, hfp, hn, hcmp, hK, hQ⟩ := h₂
  refine wpAny_bind (wpAny_newObj_type ?_)
  have hSf : s₂.heap.objs.size ∉ fp := fun hm => Nat.lt_irrefl _ (hfp _ hm)
  rw [hname]
  refine wpAny_pure ⟨plainId_quiet F.plain_min_loop _, min_loop_firstK W bt hcmp s₂.heap.objs.size hSf hK hn (W.frame _ _ _ hst fun b _ o e => Heap.get?_push_of_some _ e) (hK _ _ hkp fun b o _ hbS e => Heap.get?_push_of_some _ e) (Heap.get?_push_size _ rfl) fun v h' tk hP hk => ?_⟩
  exact hQ v h' tk hP fun b o hbw e => hk b o hbw (Nat.ne_of_lt (Heap.lt_size e)) (Heap.get?_push_of_some _ e)
theorem min_two_tups {a b : Addr} {its its2 : Array Value} {ns ms : List Int} {Q : Value → Shared → Prop} (hh : A.handled = none) (hu : A.units + 1 < cLine) (ha : IsTup s.heap a its) (hb : IsTup s.heap b its2) (ia : IntsAre its.toList ns) (ib : IntsAre its2.toList ms)
    (h : ∀ h' tk, (∀ c o, s.heap.get? c = some o → h'.get? c = some o) → Q (.ref (if HT.lexLt ms ns = true then b else a)) { s with heap := h', toks := tk }) :
    wpAny (model prog w) A (call (.builtin "min") [.ref a, .ref b]) Q E s := by
  have hT : (s.heap.push { cls := .type "tuple", data := .seq #[.ref a, .ref b] }).IsTuple s.heap.objs.size #[.ref a, .ref b] := ⟨_, Heap.get?_push_size _ rfl, rfl, 0, rfl⟩
  refine call_min_twoK (wpAny_pyIter_tuple hT ?_)
  have hsz : (s.heap.push { cls := .type "tuple", data := .seq #[.ref a, .ref b] }).objs.size = s.heap.objs.size + 1 := Heap.size_push ..
  have tupAt : ∀ {h h' : Heap} {c : Addr} {x : Array Value}, IsTup h c x → (∀ o, h.get? c = some o → h'.get? c = some o) → IsTup h' c x := fun {h h' c x} ⟨o, e, r⟩ k => ⟨o, k o e, r⟩
  refine ⟨_, [_, s.heap.objs.size], [_], _, _, _, fun i j => HT.lexLt (if i = 0 then ns else ms) (if j = 0 then ns else ms), fun h => IsTup h a its ∧ IsTup h b its2, rfl, Walks.tuple (A := A.in1) hh _ s.heap.objs.size (by rw [hsz]; exact Nat.ne_of_lt (Nat.lt_succ_self _)) #[.ref a, .ref b],
    ⟨⟨_, Heap.get?_push_size _ rfl, rfl, rfl⟩, hT.push _⟩, ⟨tupAt ha fun o e => Heap.get?_push_of_some _ (Heap.get?_push_of_some _ e), tupAt hb fun o e => Heap.get?_push_of_some _ (Heap.get?_push_of_some _ e)⟩, fun c hc => ?_, by simp, fun i j vi vj s' Q' E' hk hi hj q => ?_, fun h1 h2 hk kk => ?_, fun v h' tk hP hk => ?_⟩
  · show c < ((s.heap.push _).push _).objs.size
    rw [Heap.size_push, hsz]
    rcases List.mem_cons.mp hc with rfl | hc
    · rw [hsz]; exact Nat.lt_succ_self _
    · rcases List.mem_cons.mp hc with rfl | hc
      · exact Nat.lt_succ_of_lt (Nat.lt_succ_self _)
      · cases hc
  · have one : ∀ {i : Nat} {v : Value}, (#[Value.ref a, Value.ref b] : Array Value)[i]? = some v → ∃ (c : Addr) (x : Array Value), v = .ref c ∧ IsTup s'.heap c x ∧ IntsAre x.toList (if i = 0 then ns else ms) := fun {i v} e => by
      match i with
      | 0 => simp at e; exact ⟨a, its, e.symm, hk.1, ia⟩
      | 1 => simp at e; exact ⟨b, its2, e.symm, hk.2, ib⟩
      | i + 2 => simp at e
    obtain ⟨c1, x1, rfl, t1, j1⟩ := one hi
    obtain ⟨c2, x2, rfl, t2, j2⟩ := one hj
    exact HT.lt_tupInts t1 t2 j1 j2 (show A.units + 1 < cLine from hu) q
  · have lt1 : a < s.heap.objs.size := let ⟨_, e, _⟩ := ha; Heap.lt_size e
    have lt2 : b < s.heap.objs.size := let ⟨_, e, _⟩ := hb; Heap.lt_size e
    have ne1 : ∀ {c : Addr}, c < s.heap.objs.size → c ∉ [(s.heap.push { cls := .type "tuple", data := .seq #[.ref a, .ref b] }).objs.size] := fun {c} hc => by
      rw [List.mem_singleton, hsz]; exact Nat.ne_of_lt (Nat.lt_succ_of_lt hc)
    refine ⟨tupAt hk.1 fun o e => kk _ o (ne1 lt1) ?_ e, tupAt hk.2 fun o e => kk _ o (ne1 lt2) ?_ e⟩
    · show a ≠ ((s.heap.push _).push _).objs.size
      rw [Heap.size_push, hsz]; exact Nat.ne_of_lt (Nat.lt_succ_of_lt (Nat.lt_succ_of_lt lt1))
    · show b ≠ ((s.heap.push _).push _).objs.size
      rw [Heap.size_push, hsz]; exact Nat.ne_of_lt (Nat.lt_succ_of_lt (Nat.lt_succ_of_lt lt2))
  · have hold : ∀ c o, s.heap.get? c = some o → h'.get? c = some o := fun c o e => by
      refine hk c o (fun hm => ?_) (Heap.get?_push_of_some _ (Heap.get?_push_of_some _ e))
      rcases List.mem_cons.mp hm with e1 | hm
      · have := Heap.lt_size e; rw [e1, hsz] at this; exact Nat.lt_irrefl _ (Nat.lt_of_succ_lt this)
      · cases hm
    have := h h' tk hold
    have hv : v = .ref (if HT.lexLt ms ns = true then b else a) := by
      have hP' : (#[Value.ref a, Value.ref b] : Array Value)[argBest (fun i j => HT.lexLt (if i = 0 then ns else ms) (if j = 0 then ns else ms)) 1]? = some v := hP
      by_cases hba : HT.lexLt ms ns = true
      · have e : argBest (fun i j => HT.lexLt (if i = 0 then ns else ms) (if j = 0 then ns else ms)) 1 = 1 := by simp [argBest, hba]
        rw [e] at hP'
        simpa [hba] using hP'.symm
      · have e : argBest (fun i j => HT.lexLt (if i = 0 then ns else ms) (if j = 0 then ns else ms)) 1 = 0 := by simp [argBest, hba]
        rw [e] at hP'
        simpa [hba] using hP'.symm
    rw [hv]; exact this
end
variable [Tn]
section
variable {X : Cx} {k : Nat}
theorem call_minT (hc : X.calm = true) (hr : Room k X.A) : CallR X (.builtin "min") (fun xs H Q => ∃ a b ns ms, xs = [.ref a, .ref b] ∧ SqT X.K H a (ns.map V.int) ∧ SqT X.K H b (ms.map V.int) ∧ Q (.ref (if HT.lexLt ms ns = true then b else a)) H) := by
  intro pins s σ H xs us Q I r h
  obtain ⟨a, b, ns, ms, rfl, ha, hb, q⟩ := h
  obtain ⟨u, w', rfl, r1, r2⟩ := vals2 r
  cases (show u = Value.ref a from r1)
  cases (show w' = Value.ref b from r2)
  obtain ⟨its, v1, p1, _⟩ := I.tuple ha
  obtain ⟨its2, v2, p2, _⟩ := I.tuple hb
  have hu := hr.un
  exact min_two_tups (I.ok.hd hc) (by omega) p1 p2 (intsAre_of v1) (intsAre_of v2) fun h' tk k => ⟨.ref (if HT.lexLt ms ns = true then b else a), H, I.kept k, rfl, q⟩
/-- the less one of two tuples of whole numbers -/
noncomputable def minTD : D → D → Res D
  | .tup xs, .tup ys => match asInts xs, asInts ys with
    | some ns, some ms => .ok (if HT.lexLt ms ns = true then .tup ys else .tup xs)
    | _, _ => .bad
  | _, _ => .bad
theorem asInts_repT {G : GC} {F : Hp} : ∀ {vs : List V} {ds : List D} {ns : List Int}, RepAll G F vs ds → asInts ds = some ns → vs = ns.map V.int
  | _, _, _, .nil, e => by simp [asInts] at e; subst e; rfl
  | _, _, _, .cons (d := d) r t, e => by
    cases r with
    | int i =>
      rw [asInts] at e
      obtain ⟨l, h1, rfl⟩ := Option.map_eq_some_iff.mp e
      rw [asInts_repT t h1]
      rfl
    | _ => simp [asInts] at e
theorem b_minT (hc : X.calm = true) (hr : Room k X.A) (hm : X.mg "min" = none) : BlM X "min" .S (two minTD) := BlM.b hm boot_min (call_minT hc hr) (ne_two (fun a b e z => by unfold minTD at z; split at z <;> (try split at z) <;> cases z)) (cal_two fun F H x y a b d Q s ra rb e q => by
  unfold minTD at e
  split at e
  · rename_i xs ys
    split at e
    · rename_i ns ms h1 h2
      cases e
      have t1 := ra.tupS
      have t2 := rb.tupS
      cases t1 with
      | tup a1 a2 =>
        cases t2 with
        | tup b1 b2 =>
          have e1 := asInts_repT a2 h1
          have e2 := asInts_repT b2 h2
          subst e1
          subst e2
          refine ⟨_, _, ns, ms, rfl, Same.sqT s a1, Same.sqT s b1, ?_⟩
          by_cases hl : HT.lexLt ms ns = true
          · rw [if_pos hl]
            exact q _ F H (Grow.refl s) (by rw [if_pos hl]; exact .tup b1 b2)
          · rw [if_neg hl]
            exact q _ F H (Grow.refl s) (by rw [if_neg hl]; exact .tup a1 a2)
    · cases e
  · cases e)
end
end Mir
set_option maxHeartbeats 0
namespace Mir.K27
open PySem PySem.Spec PyProof.Rows L2
noncomputable def top (i : Nat) : Stmt := PySem.Challenge.pw_carrytower_k27_changed.main.body.getD i (.Pass ⟨0, 0, 0, 0⟩)
section
variable [Tn]
noncomputable abbrev isC : List Nat := [10, 11, 12, 13, 14, 23, 26, 0, 2]
noncomputable abbrev isU : List Nat := [0, 2, 26]
noncomputable abbrev ctC : List Nat := [10, 11, 12, 13, 14, 23, 26]
noncomputable abbrev ctU : List Nat := [10]
noncomputable abbrev s_q_rounds : Stmt := top 30
noncomputable abbrev N_q_rounds : List Str := ["_law_cell_here", "_law_many", "_law_lowers", "_law_uppers"]
theorem sc_q_rounds : FnScope N_q_rounds ["_law_cell_here", "_law_many"] (defScope s_q_rounds) := ⟨rfl, rfl, rfl, by decide +kernel, rfl, by decide +kernel, by decide +kernel⟩
noncomputable abbrev s_q_cell : Stmt := top 26
noncomputable abbrev N_q_cell : List Str := ["_law_script", "_law_k", "_law_cell_here", "_law_number", "_law_whole_here", "_law_turn"]
theorem sc_q_cell : FnScope N_q_cell ["_law_script", "_law_k"] (defScope s_q_cell) := ⟨rfl, rfl, rfl, by decide +kernel, rfl, by decide +kernel, by decide +kernel⟩
noncomputable abbrev s_q_all : Stmt := top 27
noncomputable abbrev N_q_all : List Str := ["_law_rounds_here", "_law_found", "_law_number", "_law_wider", "_law_x", "_law_k"]
theorem sc_q_all : FnScope N_q_all ["_law_rounds_here"] (defScope s_q_all) := ⟨rfl, rfl, rfl, by decide +kernel, rfl, by decide +kernel, by decide +kernel⟩
noncomputable abbrev s_q_drawn : Stmt := top 32
noncomputable abbrev N_q_drawn : List Str := ["_law_lower", "_law_cell_here", "_law_found", "_law_number"]
theorem sc_q_drawn : FnScope N_q_drawn ["_law_lower", "_law_cell_here"] (defScope s_q_drawn) := ⟨rfl, rfl, rfl, by decide +kernel, rfl, by decide +kernel, by decide +kernel⟩
noncomputable abbrev s_q_size : Stmt := top 33
noncomputable abbrev N_q_size : List Str := ["_law_rounds_here", "_law_size_here", "_law_number"]
theorem sc_q_size : FnScope N_q_size ["_law_rounds_here"] (defScope s_q_size) := ⟨rfl, rfl, rfl, by decide +kernel, rfl, by decide +kernel, by decide +kernel⟩
noncomputable abbrev s_q_any : Stmt := top 40
noncomputable abbrev N_q_any : List Str := ["_law_lower", "_law_upper", "_law_cell_here", "_law_found", "_law_x", "_law_y"]
theorem sc_q_any : FnScope N_q_any ["_law_lower", "_law_upper", "_law_cell_here"] (defScope s_q_any) := ⟨rfl, rfl, rfl, by decide +kernel, rfl, by decide +kernel, by decide +kernel⟩
noncomputable abbrev s_q_shared : Stmt := top 31
noncomputable abbrev N_q_shared : List Str := ["_law_one", "_law_other", "_law_rest"]
theorem sc_q_shared : FnScope N_q_shared ["_law_one", "_law_other"] (defScope s_q_shared) := ⟨rfl, rfl, rfl, by decide +kernel, rfl, by decide +kernel, by decide +kernel⟩
noncomputable abbrev s_q_odd : Stmt := top 35
noncomputable abbrev N_q_odd : List Str := ["_law_lower", "_law_n", "_law_m", "_law_cell_here", "_law_found", "_law_number", "_law_by"]
theorem sc_q_odd : FnScope N_q_odd ["_law_lower", "_law_n", "_law_m", "_law_cell_here"] (defScope s_q_odd) := ⟨rfl, rfl, rfl, by decide +kernel, rfl, by decide +kernel, by decide +kernel⟩
noncomputable abbrev s_q_parts : Stmt := top 36
noncomputable abbrev N_q_parts : List Str := ["_law_lower", "_law_upper", "_law_cell_here", "_law_carried", "_law_n", "_law_odd_here", "_law_i", "_law_j"]
theorem sc_q_parts : FnScope N_q_parts ["_law_lower", "_law_upper", "_law_cell_here"] (defScope s_q_parts) := ⟨rfl, rfl, rfl, by decide +kernel, rfl, by decide +kernel, by decide +kernel⟩
noncomputable abbrev s_q_sum : Stmt := top 28
noncomputable abbrev N_q_sum : List Str := ["_law_rounds_here", "_law_x", "_law_y", "_law_a", "_law_b", "_law_number"]
theorem sc_q_sum : FnScope N_q_sum ["_law_rounds_here", "_law_x", "_law_y"] (defScope s_q_sum) := ⟨rfl, rfl, rfl, by decide +kernel, rfl, by decide +kernel, by decide +kernel⟩
noncomputable abbrev s_q_times : Stmt := top 29
noncomputable abbrev N_q_times : List Str := ["_law_rounds_here", "_law_n", "_law_x", "_law_a", "_law_number"]
theorem sc_q_times : FnScope N_q_times ["_law_rounds_here", "_law_n", "_law_x"] (defScope s_q_times) := ⟨rfl, rfl, rfl, by decide +kernel, rfl, by decide +kernel, by decide +kernel⟩
noncomputable abbrev s_q_carry : Stmt := top 37
noncomputable abbrev N_q_carry : List Str := ["_law_lower", "_law_upper", "_law_parts_here", "_law_x", "_law_y", "_law_found", "_law_k", "_law_i", "_law_j", "_law_number"]
theorem sc_q_carry : FnScope N_q_carry ["_law_lower", "_law_upper", "_law_parts_here", "_law_x", "_law_y"] (defScope s_q_carry) := ⟨rfl, rfl, rfl, by decide +kernel, rfl, by decide +kernel, by decide +kernel⟩
noncomputable abbrev s_q_own : Stmt := top 38
noncomputable abbrev N_q_own : List Str := ["_law_lower", "_law_upper", "_law_h", "_law_x", "_law_y", "_law_away"]
theorem sc_q_own : FnScope N_q_own ["_law_lower", "_law_upper", "_law_h", "_law_x", "_law_y"] (defScope s_q_own) := ⟨rfl, rfl, rfl, by decide +kernel, rfl, by decide +kernel, by decide +kernel⟩
noncomputable abbrev s_q_carries : Stmt := top 39
noncomputable abbrev N_q_carries : List Str := ["_law_lower", "_law_upper", "_law_parts_here", "_law_h", "_law_found", "_law_x", "_law_y", "_law_carried"]
theorem sc_q_carries : FnScope N_q_carries ["_law_lower", "_law_upper", "_law_parts_here", "_law_h"] (defScope s_q_carries) := ⟨rfl, rfl, rfl, by decide +kernel, rfl, by decide +kernel, by decide +kernel⟩
noncomputable abbrev s_q_labels : Stmt := top 34
noncomputable abbrev N_q_labels : List Str := ["_law_lower", "_law_upper", "_law_cell_here", "_law_h", "_law_x"]
theorem sc_q_labels : FnScope N_q_labels ["_law_lower", "_law_upper", "_law_cell_here"] (defScope s_q_labels) := ⟨rfl, rfl, rfl, by decide +kernel, rfl, by decide +kernel, by decide +kernel⟩
noncomputable abbrev s_Rounds_members : Stmt := inClass (top 15) 1
noncomputable abbrev N_Rounds_members : List Str := ["self", "found", "number", "longer", "x", "here"]
theorem sc_Rounds_members : FnScope N_Rounds_members ["self"] (defScope s_Rounds_members) := ⟨rfl, rfl, rfl, by decide +kernel, rfl, by decide +kernel, by decide +kernel⟩
noncomputable abbrev s_Group_size : Stmt := inClass (top 14) 0
noncomputable abbrev N_Group_size : List Str := ["self"]
theorem sc_Group_size : FnScope N_Group_size ["self"] (defScope s_Group_size) := ⟨rfl, rfl, rfl, by decide +kernel, rfl, by decide +kernel, by decide +kernel⟩
noncomputable abbrev s_Rounds_is_even : Stmt := inClass (top 15) 7
noncomputable abbrev N_Rounds_is_even : List Str := ["self"]
theorem sc_Rounds_is_even : FnScope N_Rounds_is_even ["self"] (defScope s_Rounds_is_even) := ⟨rfl, rfl, rfl, by decide +kernel, rfl, by decide +kernel, by decide +kernel⟩
noncomputable abbrev s_look_at_groups : Stmt := top 19
noncomputable abbrev N_look_at_groups : List Str := ["lower", "upper"]
theorem sc_look_at_groups : FnScope N_look_at_groups ["lower", "upper"] (defScope s_look_at_groups) := ⟨rfl, rfl, rfl, by decide +kernel, rfl, by decide +kernel, by decide +kernel⟩
noncomputable abbrev s_is_whole : Stmt := top 12
noncomputable abbrev N_is_whole : List Str := ["thing"]
theorem sc_is_whole : FnScope N_is_whole ["thing"] (defScope s_is_whole) := ⟨rfl, rfl, rfl, by decide +kernel, rfl, by decide +kernel, by decide +kernel⟩
noncomputable abbrev s_Rounds_has : Stmt := inClass (top 15) 2
noncomputable abbrev N_Rounds_has : List Str := ["self", "thing", "number", "most"]
theorem sc_Rounds_has : FnScope N_Rounds_has ["self", "thing"] (defScope s_Rounds_has) := ⟨rfl, rfl, rfl, by decide +kernel, rfl, by decide +kernel, by decide +kernel⟩
noncomputable abbrev s_NoCarry_init : Stmt := inClass (top 7) 0
noncomputable abbrev s_Table_init : Stmt := inClass (top 20) 0
noncomputable abbrev N_Table_init : List Str := ["self", "lower", "upper", "carries", "some", "x", "y"]
theorem sc_Table_init : FnScope N_Table_init ["self", "lower", "upper", "carries"] (defScope s_Table_init) := ⟨rfl, rfl, rfl, by decide +kernel, rfl, by decide +kernel, by decide +kernel⟩
noncomputable abbrev s_are_rounds : Stmt := top 13
noncomputable abbrev N_are_rounds : List Str := ["thing", "many", "number"]
theorem sc_are_rounds : FnScope N_are_rounds ["thing"] (defScope s_are_rounds) := ⟨rfl, rfl, rfl, by decide +kernel, rfl, by decide +kernel, by decide +kernel⟩
noncomputable abbrev s_Rounds_init : Stmt := inClass (top 15) 0
noncomputable abbrev N_Rounds_init : List Str := ["self", "rounds"]
theorem sc_Rounds_init : FnScope N_Rounds_init ["self", "rounds"] (defScope s_Rounds_init) := ⟨rfl, rfl, rfl, by decide +kernel, rfl, by decide +kernel, by decide +kernel⟩
noncomputable abbrev s_q_odd_thing : Stmt := top 44
noncomputable abbrev N_q_odd_thing : List Str := ["_law_lower", "_law_cell_here", "_law_some", "_law_number"]
theorem sc_q_odd_thing : FnScope N_q_odd_thing ["_law_lower", "_law_cell_here"] (defScope s_q_odd_thing) := ⟨rfl, rfl, rfl, by decide +kernel, rfl, by decide +kernel, by decide +kernel⟩
noncomputable abbrev s_NoRelabeling_init : Stmt := inClass (top 8) 0
noncomputable abbrev s_labels_of : Stmt := top 22
noncomputable abbrev N_labels_of : List Str := ["lower", "upper", "h", "found", "x"]
theorem sc_labels_of : FnScope N_labels_of ["lower", "upper", "h"] (defScope s_labels_of) := ⟨rfl, rfl, rfl, by decide +kernel, rfl, by decide +kernel, by decide +kernel⟩
noncomputable abbrev s_Table_carries : Stmt := inClass (top 20) 2
noncomputable abbrev N_Table_carries : List Str := ["self"]
theorem sc_Table_carries : FnScope N_Table_carries ["self"] (defScope s_Table_carries) := ⟨rfl, rfl, rfl, by decide +kernel, rfl, by decide +kernel, by decide +kernel⟩
noncomputable abbrev s_Group_look_at : Stmt := inClass (top 14) 1
noncomputable abbrev N_Group_look_at : List Str := ["self", "thing"]
theorem sc_Group_look_at : FnScope N_Group_look_at ["self", "thing"] (defScope s_Group_look_at) := ⟨rfl, rfl, rfl, by decide +kernel, rfl, by decide +kernel, by decide +kernel⟩
noncomputable abbrev s_Rounds_put : Stmt := inClass (top 15) 4
noncomputable abbrev N_Rounds_put : List Str := ["self", "x", "y", "a", "b", "number"]
theorem sc_Rounds_put : FnScope N_Rounds_put ["self", "x", "y"] (defScope s_Rounds_put) := ⟨rfl, rfl, rfl, by decide +kernel, rfl, by decide +kernel, by decide +kernel⟩
noncomputable abbrev s_Group_added : Stmt := inClass (top 14) 2
noncomputable abbrev N_Group_added : List Str := ["self", "x", "y"]
theorem sc_Group_added : FnScope N_Group_added ["self", "x", "y"] (defScope s_Group_added) := ⟨rfl, rfl, rfl, by decide +kernel, rfl, by decide +kernel, by decide +kernel⟩
noncomputable abbrev s_Rounds_backed : Stmt := inClass (top 15) 5
noncomputable abbrev N_Rounds_backed : List Str := ["self", "x", "a", "number"]
theorem sc_Rounds_backed : FnScope N_Rounds_backed ["self", "x"] (defScope s_Rounds_backed) := ⟨rfl, rfl, rfl, by decide +kernel, rfl, by decide +kernel, by decide +kernel⟩
noncomputable abbrev s_Group_back : Stmt := inClass (top 14) 3
noncomputable abbrev N_Group_back : List Str := ["self", "x"]
theorem sc_Group_back : FnScope N_Group_back ["self", "x"] (defScope s_Group_back) := ⟨rfl, rfl, rfl, by decide +kernel, rfl, by decide +kernel, by decide +kernel⟩
noncomputable abbrev s_own_carry : Stmt := top 23
noncomputable abbrev N_own_carry : List Str := ["lower", "upper", "h", "x", "y"]
theorem sc_own_carry : FnScope N_own_carry ["lower", "upper", "h", "x", "y"] (defScope s_own_carry) := ⟨rfl, rfl, rfl, by decide +kernel, rfl, by decide +kernel, by decide +kernel⟩
noncomputable abbrev s_changed : Stmt := top 24
noncomputable abbrev N_changed : List Str := ["table", "h", "told", "found", "pair", "carried", "own"]
theorem sc_changed : FnScope N_changed ["table", "h"] (defScope s_changed) := ⟨rfl, rfl, rfl, by decide +kernel, rfl, by decide +kernel, by decide +kernel⟩
noncomputable abbrev s_q_lacks : Stmt := top 45
noncomputable abbrev N_q_lacks : List Str := ["_law_table", "_law_h", "_law_told", "e"]
theorem sc_q_lacks : FnScope N_q_lacks ["_law_table", "_law_h"] (defScope s_q_lacks) := ⟨rfl, rfl, rfl, by decide +kernel, rfl, by decide +kernel, by decide +kernel⟩
noncomputable abbrev s_q_whole : Stmt := top 41
noncomputable abbrev N_q_whole : List Str := ["_law_thing"]
theorem sc_q_whole : FnScope N_q_whole ["_law_thing"] (defScope s_q_whole) := ⟨rfl, rfl, rfl, by decide +kernel, rfl, by decide +kernel, by decide +kernel⟩
noncomputable abbrev s_q_are : Stmt := top 42
noncomputable abbrev N_q_are : List Str := ["_law_found", "_law_many", "_law_number"]
theorem sc_q_are : FnScope N_q_are ["_law_found", "_law_many"] (defScope s_q_are) := ⟨rfl, rfl, rfl, by decide +kernel, rfl, by decide +kernel, by decide +kernel⟩
noncomputable abbrev s_q_table_is : Stmt := top 43
noncomputable abbrev N_q_table_is : List Str := ["_law_found", "_law_lower", "_law_upper", "_law_due", "_law_told", "_law_pair"]
theorem sc_q_table_is : FnScope N_q_table_is ["_law_found", "_law_lower", "_law_upper", "_law_due"] (defScope s_q_table_is) := ⟨rfl, rfl, rfl, by decide +kernel, rfl, by decide +kernel, by decide +kernel⟩
noncomputable abbrev s_law : Stmt := top 46
noncomputable abbrev N_law : List Str := ["_law_script", "_law_lower", "_law_upper", "_law_carries_here", "_law_parts_here", "_law_table", "_law_h", "_law_some", "_law_one", "_law_other", "_law_due", "_law_x", "_law_y", "_law_handed", "_law_found", "_law_nought", "_law_number"]
theorem sc_law : FnScope N_law ["_law_script"] (defScope s_law) := ⟨rfl, rfl, rfl, by decide +kernel, rfl, by decide +kernel, by decide +kernel⟩
noncomputable def e_q_rounds : Env → Oc := fun r => (lift (((((.ok (.int 2)) >>= fun d => (.ok []) >>= fun ds => .ok (d :: ds)) >>= tupD) >>= fun d => ((((.ok (.int 4)) >>= fun d => (.ok []) >>= fun ds => .ok (d :: ds)) >>= tupD) >>= fun d => ((((.ok (.int 3)) >>= fun d => (.ok []) >>= fun ds => .ok (d :: ds)) >>= tupD) >>= fun d => ((((.ok (.int 2)) >>= fun d => ((.ok (.int 2)) >>= fun d => (.ok []) >>= fun ds => .ok (d :: ds)) >>= fun ds => .ok (d :: ds)) >>= tupD) >>= fun d => ((((.ok (.int 6)) >>= fun d => (.ok []) >>= fun ds => .ok (d :: ds)) >>= tupD) >>= fun d => ((((.ok (.int 8)) >>= fun d => (.ok []) >>= fun ds => .ok (d :: ds)) >>= tupD) >>= fun d => ((((.ok (.int 2)) >>= fun d => ((.ok (.int 4)) >>= fun d => (.ok []) >>= fun ds => .ok (d :: ds)) >>= fun ds => .ok (d :: ds)) >>= tupD) >>= fun d => ((((.ok (.int 9)) >>= fun d => (.ok []) >>= fun ds => .ok (d :: ds)) >>= tupD) >>= fun d => (.ok []) >>= fun ds => .ok (d :: ds)) >>= fun ds => .ok (d :: ds)) >>= fun ds => .ok (d :: ds)) >>= fun ds => .ok (d :: ds)) >>= fun ds => .ok (d :: ds)) >>= fun ds => .ok (d :: ds)) >>= fun ds => .ok (d :: ds)) >>= fun ds => .ok (d :: ds)) >>= lstD) r fun d => .nx (r.set 2 (.sh d))).seq fun r => ((lift ((getS 2 r) >>= fun x => (((((.ok (.int 12)) >>= fun d => (.ok []) >>= fun ds => .ok (d :: ds)) >>= tupD) >>= fun d => ((((.ok (.int 3)) >>= fun d => ((.ok (.int 3)) >>= fun d => (.ok []) >>= fun ds => .ok (d :: ds)) >>= fun ds => .ok (d :: ds)) >>= tupD) >>= fun d => ((((.ok (.int 2)) >>= fun d => ((.ok (.int 6)) >>= fun d => (.ok []) >>= fun ds => .ok (d :: ds)) >>= fun ds => .ok (d :: ds)) >>= tupD) >>= fun d => (((.ok []) >>= tupD) >>= fun d => ((((.ok (.int 5)) >>= fun d => (.ok []) >>= fun ds => .ok (d :: ds)) >>= tupD) >>= fun d => ((((.ok (.int 2)) >>= fun d => ((.ok (.int 2)) >>= fun d => ((.ok (.int 2)) >>= fun d => (.ok []) >>= fun ds => .ok (d :: ds)) >>= fun ds => .ok (d :: ds)) >>= fun ds => .ok (d :: ds)) >>= tupD) >>= fun d => ((((.ok (.int 16)) >>= fun d => (.ok []) >>= fun ds => .ok (d :: ds)) >>= tupD) >>= fun d => ((((.ok (.int 4)) >>= fun d => ((.ok (.int 4)) >>= fun d => (.ok []) >>= fun ds => .ok (d :: ds)) >>= fun ds => .ok (d :: ds)) >>= tupD) >>= fun d => (.ok []) >>= fun ds => .ok (d :: ds)) >>= fun ds => .ok (d :: ds)) >>= fun ds => .ok (d :: ds)) >>= fun ds => .ok (d :: ds)) >>= fun ds => .ok (d :: ds)) >>= fun ds => .ok (d :: ds)) >>= fun ds => .ok (d :: ds)) >>= fun ds => .ok (d :: ds)) >>= lstD) >>= fun y => addD x y) r fun d => .nx (r.set 2 (.sh d))).seq fun r => ((lift (((((.ok (.int 2)) >>= fun d => (.ok []) >>= fun ds => .ok (d :: ds)) >>= tupD) >>= fun d => ((((.ok (.int 3)) >>= fun d => (.ok []) >>= fun ds => .ok (d :: ds)) >>= tupD) >>= fun d => ((((.ok (.int 2)) >>= fun d => ((.ok (.int 2)) >>= fun d => (.ok []) >>= fun ds => .ok (d :: ds)) >>= fun ds => .ok (d :: ds)) >>= tupD) >>= fun d => ((((.ok (.int 4)) >>= fun d => (.ok []) >>= fun ds => .ok (d :: ds)) >>= tupD) >>= fun d => (((.ok []) >>= tupD) >>= fun d => ((((.ok (.int 2)) >>= fun d => ((.ok (.int 3)) >>= fun d => (.ok []) >>= fun ds => .ok (d :: ds)) >>= fun ds => .ok (d :: ds)) >>= tupD) >>= fun d => ((((.ok (.int 6)) >>= fun d => (.ok []) >>= fun ds => .ok (d :: ds)) >>= tupD) >>= fun d => ((((.ok (.int 5)) >>= fun d => (.ok []) >>= fun ds => .ok (d :: ds)) >>= tupD) >>= fun d => (.ok []) >>= fun ds => .ok (d :: ds)) >>= fun ds => .ok (d :: ds)) >>= fun ds => .ok (d :: ds)) >>= fun ds => .ok (d :: ds)) >>= fun ds => .ok (d :: ds)) >>= fun ds => .ok (d :: ds)) >>= fun ds => .ok (d :: ds)) >>= fun ds => .ok (d :: ds)) >>= lstD) r fun d => .nx (r.set 3 (.sh d))).seq fun r => ((lift ((getS 3 r) >>= fun x => (((((.ok (.int 2)) >>= fun d => ((.ok (.int 2)) >>= fun d => (.ok []) >>= fun ds => .ok (d :: ds)) >>= fun ds => .ok (d :: ds)) >>= tupD) >>= fun d => ((((.ok (.int 4)) >>= fun d => (.ok []) >>= fun ds => .ok (d :: ds)) >>= tupD) >>= fun d => ((((.ok (.int 2)) >>= fun d => ((.ok (.int 2)) >>= fun d => ((.ok (.int 2)) >>= fun d => (.ok []) >>= fun ds => .ok (d :: ds)) >>= fun ds => .ok (d :: ds)) >>= fun ds => .ok (d :: ds)) >>= tupD) >>= fun d => ((((.ok (.int 3)) >>= fun d => ((.ok (.int 3)) >>= fun d => (.ok []) >>= fun ds => .ok (d :: ds)) >>= fun ds => .ok (d :: ds)) >>= tupD) >>= fun d => ((((.ok (.int 2)) >>= fun d => ((.ok (.int 4)) >>= fun d => (.ok []) >>= fun ds => .ok (d :: ds)) >>= fun ds => .ok (d :: ds)) >>= tupD) >>= fun d => ((((.ok (.int 8)) >>= fun d => (.ok []) >>= fun ds => .ok (d :: ds)) >>= tupD) >>= fun d => ((((.ok (.int 9)) >>= fun d => (.ok []) >>= fun ds => .ok (d :: ds)) >>= tupD) >>= fun d => ((((.ok (.int 7)) >>= fun d => (.ok []) >>= fun ds => .ok (d :: ds)) >>= tupD) >>= fun d => (.ok []) >>= fun ds => .ok (d :: ds)) >>= fun ds => .ok (d :: ds)) >>= fun ds => .ok (d :: ds)) >>= fun ds => .ok (d :: ds)) >>= fun ds => .ok (d :: ds)) >>= fun ds => .ok (d :: ds)) >>= fun ds => .ok (d :: ds)) >>= fun ds => .ok (d :: ds)) >>= lstD) >>= fun y => addD x y) r fun d => .nx (r.set 3 (.sh d))).seq fun r => (lift ((((getS 2 r) >>= fun x => ((getS 0 r) >>= fun x => (.ok (.int 16)) >>= fun y => modD x y) >>= fun y => ixD x y) >>= fun d => (((getS 3 r) >>= fun x => (((getS 0 r) >>= fun x => (.ok (.int 16)) >>= fun y => divD x y) >>= fun x => (getS 1 r) >>= fun y => modD x y) >>= fun y => ixD x y) >>= fun d => (.ok []) >>= fun ds => .ok (d :: ds)) >>= fun ds => .ok (d :: ds)) >>= tupD) r fun d => .rt d))))
noncomputable def d_q_rounds : List D → Res D := runD 2 N_q_rounds.length e_q_rounds
noncomputable def q_cell_l1 : D → Env → Oc := fun d r => (into ((nameG 5) d r)).seq fun r => ((lift ((((getS 3 r) >>= fun x => (.ok (.int 69621)) >>= fun y => mulD x y) >>= fun x => (.ok (.int 7919)) >>= fun y => addD x y) >>= fun x => (.ok (.int 2147483647)) >>= fun y => modD x y) r fun d => .nx (r.set 3 (.sh d))).seq fun r => (lift (((getS 4 r) >>= fun x => (.ok (.int 2147483647)) >>= fun y => mulD x y) >>= fun x => (getS 3 r) >>= fun y => addD x y) r fun d => .nx (r.set 4 (.sh d))))
noncomputable def e_q_cell : Env → Oc := fun r => (lift (.ok (.int 0)) r fun d => .nx (r.set 2 (.sh d))).seq fun r => ((lift (((((getS 0 r) >>= fun d => (.ok []) >>= fun ds => .ok (d :: ds)) >>= one lenD) >>= fun x => (.ok (.int 0)) >>= fun y => gtD x y) >>= asB) r fun t => if t = true then ((lift ((getS 0 r) >>= fun x => ((getS 1 r) >>= fun x => (((getS 0 r) >>= fun d => (.ok []) >>= fun ds => .ok (d :: ds)) >>= one lenD) >>= fun y => modD x y) >>= fun y => ixD x y) r fun d => .nx (r.set 2 (.sh d))).seq fun r => (lift (((((getS 0 r) >>= fun x => (.ok (.int 0)) >>= fun y => ixD x y) >>= fun x => (.ok (.int 2)) >>= fun y => modD x y) >>= fun x => (.ok (.int 0)) >>= fun y => eqD x y) >>= asB) r fun t => if t = true then (lift ((getS 2 r) >>= fun x => (.ok (.int 2)) >>= fun y => divD x y) r fun d => .rt d) else (.nx r))) else (.nx r)).seq fun r => ((lift ((((((getS 2 r) >>= fun x => (.ok (.int 2147483647)) >>= fun y => modD x y) >>= fun x => ((.ok (.int 1009)) >>= fun x => (getS 1 r) >>= fun y => mulD x y) >>= fun y => addD x y) >>= fun x => (.ok (.int 7)) >>= fun y => addD x y) >>= fun x => (.ok (.int 48271)) >>= fun y => mulD x y) >>= fun x => (.ok (.int 2147483647)) >>= fun y => modD x y) r fun d => .nx (r.set 3 (.sh d))).seq fun r => ((lift (getS 3 r) r fun d => .nx (r.set 4 (.sh d))).seq fun r => ((lift (((.ok (.int 12)) >>= fun d => (.ok []) >>= fun ds => .ok (d :: ds)) >>= rng1) r fun ds => forD (q_cell_l1) ds r).seq fun r => (lift (getS 4 r) r fun d => .rt d)))))
noncomputable def d_q_cell : List D → Res D := runD 2 N_q_cell.length e_q_cell
noncomputable def q_all_c1 (r : Env) (ds : List D) : Res (List D) := lcD (nameG 5)
  (fun r => .ok true)
  (fun r => (getS 4 r) >>= fun x => (((getS 5 r) >>= fun d => (.ok []) >>= fun ds => .ok (d :: ds)) >>= tupD) >>= fun y => addD x y)
  (wipeR r [5]) ds
noncomputable def q_all_l2 : D → Env → Oc := fun d r => (into ((nameG 4) d r)).seq fun r => (extG 3 (fun r => (((getS 2 r) >>= fun d => (.ok []) >>= fun ds => .ok (d :: ds)) >>= rng1) >>= fun ds => q_all_c1 r ds >>= lstD) r)
noncomputable def q_all_l3 : D → Env → Oc := fun d r => (into ((nameG 2) d r)).seq fun r => ((lift ((.ok []) >>= lstD) r fun d => .nx (r.set 3 (.ow .flat d))).seq fun r => ((lift ((getS 1 r) >>= itemsD) r fun ds => forD (q_all_l2) ds r).seq fun r => (frzAt 3 (fun r => lift (getS 3 r) r fun d => .nx (r.set 1 (.sh d))) r)))
noncomputable def e_q_all : Env → Oc := fun r => (lift ((((.ok []) >>= tupD) >>= fun d => (.ok []) >>= fun ds => .ok (d :: ds)) >>= lstD) r fun d => .nx (r.set 1 (.sh d))).seq fun r => ((lift ((getS 0 r) >>= itemsD) r fun ds => forD (q_all_l3) ds r).seq fun r => (lift (getS 1 r) r fun d => .rt d))
noncomputable def d_q_all : List D → Res D := runD 1 N_q_all.length e_q_all
noncomputable def q_drawn_l1 : D → Env → Oc := fun d r => (into ((nameG 3) d r)).seq fun r => ((appG 2 (fun r => (getS 1 r) >>= fun x => (getS 3 r) >>= fun y => modD x y) r).seq fun r => (lift ((getS 1 r) >>= fun x => (getS 3 r) >>= fun y => divD x y) r fun d => .nx (r.set 1 (.sh d))))
noncomputable def e_q_drawn : Env → Oc := fun r => (lift ((.ok []) >>= lstD) r fun d => .nx (r.set 2 (.ow .flat d))).seq fun r => ((lift ((getS 0 r) >>= itemsD) r fun ds => forD (q_drawn_l1) ds r).seq fun r => (lift (((getR 2 r) >>= fun d => (.ok []) >>= fun ds => .ok (d :: ds)) >>= one tupleD) r fun d => .rt d))
noncomputable def d_q_drawn : List D → Res D := runD 2 N_q_drawn.length e_q_drawn
noncomputable def q_size_l1 : D → Env → Oc := fun d r => (into ((nameG 2) d r)).seq fun r => (lift ((getS 1 r) >>= fun x => (getS 2 r) >>= fun y => mulD x y) r fun d => .nx (r.set 1 (.sh d)))
noncomputable def e_q_size : Env → Oc := fun r => (lift (.ok (.int 1)) r fun d => .nx (r.set 1 (.sh d))).seq fun r => ((lift ((getS 0 r) >>= itemsD) r fun ds => forD (q_size_l1) ds r).seq fun r => (lift (getS 1 r) r fun d => .rt d))
noncomputable def d_q_size : List D → Res D := runD 1 N_q_size.length e_q_size
noncomputable def q_any_l1 : D → Env → Oc := fun d r => (into ((nameG 5) d r)).seq fun r => ((setG 3 (fun r => ((getS 0 r) >>= fun d => ((getS 2 r) >>= fun d => (.ok []) >>= fun ds => .ok (d :: ds)) >>= fun ds => .ok (d :: ds)) >>= d_q_drawn) (fun r => ((getS 4 r) >>= fun d => ((getS 5 r) >>= fun d => (.ok []) >>= fun ds => .ok (d :: ds)) >>= fun ds => .ok (d :: ds)) >>= tupD) r).seq fun r => (lift ((getS 2 r) >>= fun x => (((getS 0 r) >>= fun d => (.ok []) >>= fun ds => .ok (d :: ds)) >>= d_q_size) >>= fun y => divD x y) r fun d => .nx (r.set 2 (.sh d))))
noncomputable def q_any_l2 : D → Env → Oc := fun d r => (into ((nameG 4) d r)).seq fun r => (lift ((((getS 1 r) >>= fun d => (.ok []) >>= fun ds => .ok (d :: ds)) >>= d_q_all) >>= itemsD) r fun ds => forD (q_any_l1) ds r)
noncomputable def e_q_any : Env → Oc := fun r => (lift (.ok (.dic [] [])) r fun d => .nx (r.set 3 (.ow .flat d))).seq fun r => ((lift ((((getS 1 r) >>= fun d => (.ok []) >>= fun ds => .ok (d :: ds)) >>= d_q_all) >>= itemsD) r fun ds => forD (q_any_l2) ds r).seq fun r => (frzAt 3 (fun r => lift (getS 3 r) r fun d => .rt d) r))
noncomputable def d_q_any : List D → Res D := runD 3 N_q_any.length e_q_any
noncomputable def q_shared_w1c : Env → Res Bool := fun r => ((getS 1 r) >>= fun x => (.ok (.int 0)) >>= fun y => gtD x y) >>= asB
noncomputable def q_shared_w1 : Env → Oc := fun r => ((lift ((getS 0 r) >>= fun x => (getS 1 r) >>= fun y => modD x y) r fun d => .nx (r.set 2 (.sh d))).seq fun r => ((lift (getS 1 r) r fun d => .nx (r.set 0 (.sh d))).seq fun r => (lift (getS 2 r) r fun d => .nx (r.set 1 (.sh d)))))
noncomputable def e_q_shared : Env → Oc := fun r => (loopD q_shared_w1c q_shared_w1 r).seq fun r => (lift (getS 0 r) r fun d => .rt d)
noncomputable def d_q_shared : List D → Res D := runD 2 N_q_shared.length e_q_shared
noncomputable def q_odd_l1 : D → Env → Oc := fun d r => (into ((nameG 5) d r)).seq fun r => ((lift (((((getS 1 r) >>= fun d => ((getS 2 r) >>= fun d => (.ok []) >>= fun ds => .ok (d :: ds)) >>= fun ds => .ok (d :: ds)) >>= d_q_shared) >>= fun d => ((getS 5 r) >>= fun d => (.ok []) >>= fun ds => .ok (d :: ds)) >>= fun ds => .ok (d :: ds)) >>= d_q_shared) r fun d => .nx (r.set 6 (.sh d))).seq fun r => ((appG 4 (fun r => ((getS 5 r) >>= fun x => (getS 6 r) >>= fun y => divD x y) >>= fun x => ((getS 3 r) >>= fun x => (getS 6 r) >>= fun y => modD x y) >>= fun y => mulD x y) r).seq fun r => (lift ((getS 3 r) >>= fun x => (getS 6 r) >>= fun y => divD x y) r fun d => .nx (r.set 3 (.sh d)))))
noncomputable def e_q_odd : Env → Oc := fun r => (lift ((.ok []) >>= lstD) r fun d => .nx (r.set 4 (.ow .flat d))).seq fun r => ((lift ((getS 0 r) >>= itemsD) r fun ds => forD (q_odd_l1) ds r).seq fun r => (lift (((getR 4 r) >>= fun d => (.ok []) >>= fun ds => .ok (d :: ds)) >>= one tupleD) r fun d => .rt d))
noncomputable def d_q_odd : List D → Res D := runD 4 N_q_odd.length e_q_odd
noncomputable def q_parts_l1 : D → Env → Oc := fun d r => (into ((nameG 4) d r)).seq fun r => ((appG 3 (fun r => ((getS 0 r) >>= fun d => ((getS 2 r) >>= fun d => (.ok []) >>= fun ds => .ok (d :: ds)) >>= fun ds => .ok (d :: ds)) >>= d_q_drawn) r).seq fun r => (lift ((getS 2 r) >>= fun x => (((getS 0 r) >>= fun d => (.ok []) >>= fun ds => .ok (d :: ds)) >>= d_q_size) >>= fun y => divD x y) r fun d => .nx (r.set 2 (.sh d))))
noncomputable def q_parts_l2 : D → Env → Oc := fun d r => (into ((nameG 7) d r)).seq fun r => ((setG 5 (fun r => ((getS 0 r) >>= fun d => (((getS 1 r) >>= fun x => (getS 6 r) >>= fun y => ixD x y) >>= fun d => (((getS 1 r) >>= fun x => (getS 7 r) >>= fun y => ixD x y) >>= fun d => ((getS 2 r) >>= fun d => (.ok []) >>= fun ds => .ok (d :: ds)) >>= fun ds => .ok (d :: ds)) >>= fun ds => .ok (d :: ds)) >>= fun ds => .ok (d :: ds)) >>= d_q_odd) (fun r => ((getS 6 r) >>= fun d => ((getS 7 r) >>= fun d => (.ok []) >>= fun ds => .ok (d :: ds)) >>= fun ds => .ok (d :: ds)) >>= tupD) r).seq fun r => (lift ((getS 2 r) >>= fun x => (((getS 0 r) >>= fun d => (.ok []) >>= fun ds => .ok (d :: ds)) >>= d_q_size) >>= fun y => divD x y) r fun d => .nx (r.set 2 (.sh d))))
noncomputable def q_parts_l3 : D → Env → Oc := fun d r => (into ((nameG 6) d r)).seq fun r => (lift ((((getS 6 r) >>= fun x => (.ok (.int 1)) >>= fun y => addD x y) >>= fun d => ((((getS 1 r) >>= fun d => (.ok []) >>= fun ds => .ok (d :: ds)) >>= one lenD) >>= fun d => (.ok []) >>= fun ds => .ok (d :: ds)) >>= fun ds => .ok (d :: ds)) >>= rng2) r fun ds => forD (q_parts_l2) ds r)
noncomputable def e_q_parts : Env → Oc := fun r => (lift ((.ok []) >>= lstD) r fun d => .nx (r.set 3 (.ow .flat d))).seq fun r => ((lift ((getS 1 r) >>= itemsD) r fun ds => forD (q_parts_l1) ds r).seq fun r => ((lift (.ok (.dic [] [])) r fun d => .nx (r.set 5 (.ow .flat d))).seq fun r => ((lift (((((getS 1 r) >>= fun d => (.ok []) >>= fun ds => .ok (d :: ds)) >>= one lenD) >>= fun d => (.ok []) >>= fun ds => .ok (d :: ds)) >>= rng1) r fun ds => forD (q_parts_l3) ds r).seq fun r => (frzAt 5 (fun r => frzAt 3 (fun r => lift (((getS 3 r) >>= fun d => ((getS 5 r) >>= fun d => (.ok []) >>= fun ds => .ok (d :: ds)) >>= fun ds => .ok (d :: ds)) >>= tupD) r fun d => .rt d) r) r))))
noncomputable def d_q_parts : List D → Res D := runD 3 N_q_parts.length e_q_parts
noncomputable def q_sum_c1 (r : Env) (ds : List D) : Res (List D) := lcD (tupG 3 (consG (nameG 3) (consG (nameG 4) (consG (nameG 5) (nilG)))))
  (fun r => .ok true)
  (fun r => ((getS 3 r) >>= fun x => (getS 4 r) >>= fun y => addD x y) >>= fun x => (getS 5 r) >>= fun y => modD x y)
  (wipeR r [3, 4, 5]) ds
noncomputable def e_q_sum : Env → Oc := fun r => lift ((((((getS 1 r) >>= fun d => ((getS 2 r) >>= fun d => ((getS 0 r) >>= fun d => (.ok []) >>= fun ds => .ok (d :: ds)) >>= fun ds => .ok (d :: ds)) >>= fun ds => .ok (d :: ds)) >>= zip3D) >>= fun ds => q_sum_c1 r ds >>= lstD) >>= fun d => (.ok []) >>= fun ds => .ok (d :: ds)) >>= one tupleD) r fun d => .rt d
noncomputable def d_q_sum : List D → Res D := runD 3 N_q_sum.length e_q_sum
noncomputable def q_times_c1 (r : Env) (ds : List D) : Res (List D) := lcD (tupG 2 (consG (nameG 3) (consG (nameG 4) (nilG))))
  (fun r => .ok true)
  (fun r => ((getS 1 r) >>= fun x => (getS 3 r) >>= fun y => mulD x y) >>= fun x => (getS 4 r) >>= fun y => modD x y)
  (wipeR r [3, 4]) ds
noncomputable def e_q_times : Env → Oc := fun r => lift ((((((getS 2 r) >>= fun d => ((getS 0 r) >>= fun d => (.ok []) >>= fun ds => .ok (d :: ds)) >>= fun ds => .ok (d :: ds)) >>= zip2D) >>= fun ds => q_times_c1 r ds >>= lstD) >>= fun d => (.ok []) >>= fun ds => .ok (d :: ds)) >>= one tupleD) r fun d => .rt d
noncomputable def d_q_times : List D → Res D := runD 3 N_q_times.length e_q_times
noncomputable def q_carry_c1 (r : Env) (ds : List D) : Res (List D) := lcD (nameG 9)
  (fun r => .ok true)
  (fun r => .ok (.int 0))
  (wipeR r [9]) ds
noncomputable def q_carry_l2 : D → Env → Oc := fun d r => (into ((nameG 6) d r)).seq fun r => (lift (((((getS 3 r) >>= fun x => (getS 6 r) >>= fun y => ixD x y) >>= fun x => ((getS 4 r) >>= fun x => (getS 6 r) >>= fun y => ixD x y) >>= fun y => addD x y) >>= fun x => ((getS 1 r) >>= fun x => (getS 6 r) >>= fun y => ixD x y) >>= fun y => geD x y) >>= asB) r fun t => if t = true then (lift (((getS 0 r) >>= fun d => ((getS 5 r) >>= fun d => ((((getS 2 r) >>= fun x => (.ok (.int 0)) >>= fun y => ixD x y) >>= fun x => (getS 6 r) >>= fun y => ixD x y) >>= fun d => (.ok []) >>= fun ds => .ok (d :: ds)) >>= fun ds => .ok (d :: ds)) >>= fun ds => .ok (d :: ds)) >>= d_q_sum) r fun d => .nx (r.set 5 (.sh d))) else (.nx r))
noncomputable def q_carry_l3 : D → Env → Oc := fun d r => (into ((tupG 2 (consG (nameG 7) (consG (nameG 8) (nilG)))) d r)).seq fun r => (lift (((getS 0 r) >>= fun d => ((getS 5 r) >>= fun d => ((((getS 0 r) >>= fun d => ((((getS 3 r) >>= fun x => (getS 7 r) >>= fun y => ixD x y) >>= fun x => ((getS 4 r) >>= fun x => (getS 8 r) >>= fun y => ixD x y) >>= fun y => mulD x y) >>= fun d => ((((getS 2 r) >>= fun x => (.ok (.int 1)) >>= fun y => ixD x y) >>= fun x => (((getS 7 r) >>= fun d => ((getS 8 r) >>= fun d => (.ok []) >>= fun ds => .ok (d :: ds)) >>= fun ds => .ok (d :: ds)) >>= tupD) >>= fun y => ixD x y) >>= fun d => (.ok []) >>= fun ds => .ok (d :: ds)) >>= fun ds => .ok (d :: ds)) >>= fun ds => .ok (d :: ds)) >>= d_q_times) >>= fun d => (.ok []) >>= fun ds => .ok (d :: ds)) >>= fun ds => .ok (d :: ds)) >>= fun ds => .ok (d :: ds)) >>= d_q_sum) r fun d => .nx (r.set 5 (.sh d)))
noncomputable def e_q_carry : Env → Oc := fun r => (lift (((((getS 0 r) >>= itemsD) >>= fun ds => q_carry_c1 r ds >>= lstD) >>= fun d => (.ok []) >>= fun ds => .ok (d :: ds)) >>= one tupleD) r fun d => .nx (r.set 5 (.sh d))).seq fun r => ((lift (((((getS 1 r) >>= fun d => (.ok []) >>= fun ds => .ok (d :: ds)) >>= one lenD) >>= fun d => (.ok []) >>= fun ds => .ok (d :: ds)) >>= rng1) r fun ds => forD (q_carry_l2) ds r).seq fun r => ((lift (((getS 2 r) >>= fun x => (.ok (.int 1)) >>= fun y => ixD x y) >>= itemsD) r fun ds => forD (q_carry_l3) ds r).seq fun r => (lift (getS 5 r) r fun d => .rt d)))
noncomputable def d_q_carry : List D → Res D := runD 5 N_q_carry.length e_q_carry
noncomputable def e_q_own : Env → Oc := fun r => (lift (((getS 0 r) >>= fun d => (((.ok (.int 1)) >>= negD) >>= fun d => (((getS 2 r) >>= fun x => (((getS 1 r) >>= fun d => ((getS 3 r) >>= fun d => ((getS 4 r) >>= fun d => (.ok []) >>= fun ds => .ok (d :: ds)) >>= fun ds => .ok (d :: ds)) >>= fun ds => .ok (d :: ds)) >>= d_q_sum) >>= fun y => ixD x y) >>= fun d => (.ok []) >>= fun ds => .ok (d :: ds)) >>= fun ds => .ok (d :: ds)) >>= fun ds => .ok (d :: ds)) >>= d_q_times) r fun d => .nx (r.set 5 (.sh d))).seq fun r => (lift (((getS 0 r) >>= fun d => ((((getS 0 r) >>= fun d => (((getS 2 r) >>= fun x => (getS 3 r) >>= fun y => ixD x y) >>= fun d => (((getS 2 r) >>= fun x => (getS 4 r) >>= fun y => ixD x y) >>= fun d => (.ok []) >>= fun ds => .ok (d :: ds)) >>= fun ds => .ok (d :: ds)) >>= fun ds => .ok (d :: ds)) >>= d_q_sum) >>= fun d => ((getS 5 r) >>= fun d => (.ok []) >>= fun ds => .ok (d :: ds)) >>= fun ds => .ok (d :: ds)) >>= fun ds => .ok (d :: ds)) >>= d_q_sum) r fun d => .rt d)
noncomputable def d_q_own : List D → Res D := runD 5 N_q_own.length e_q_own
noncomputable def q_carries_l1 : D → Env → Oc := fun d r => (into ((nameG 6) d r)).seq fun r => ((lift (((getS 0 r) >>= fun d => ((getS 1 r) >>= fun d => ((getS 2 r) >>= fun d => ((getS 5 r) >>= fun d => ((getS 6 r) >>= fun d => (.ok []) >>= fun ds => .ok (d :: ds)) >>= fun ds => .ok (d :: ds)) >>= fun ds => .ok (d :: ds)) >>= fun ds => .ok (d :: ds)) >>= fun ds => .ok (d :: ds)) >>= d_q_carry) r fun d => .nx (r.set 7 (.sh d))).seq fun r => (setG 4 (fun r => ((getS 0 r) >>= fun d => ((getS 7 r) >>= fun d => ((((getS 0 r) >>= fun d => ((getS 1 r) >>= fun d => ((getS 3 r) >>= fun d => ((getS 5 r) >>= fun d => ((getS 6 r) >>= fun d => (.ok []) >>= fun ds => .ok (d :: ds)) >>= fun ds => .ok (d :: ds)) >>= fun ds => .ok (d :: ds)) >>= fun ds => .ok (d :: ds)) >>= fun ds => .ok (d :: ds)) >>= d_q_own) >>= fun d => (.ok []) >>= fun ds => .ok (d :: ds)) >>= fun ds => .ok (d :: ds)) >>= fun ds => .ok (d :: ds)) >>= d_q_sum) (fun r => ((getS 5 r) >>= fun d => ((getS 6 r) >>= fun d => (.ok []) >>= fun ds => .ok (d :: ds)) >>= fun ds => .ok (d :: ds)) >>= tupD) r))
noncomputable def q_carries_l2 : D → Env → Oc := fun d r => (into ((nameG 5) d r)).seq fun r => (lift ((((getS 1 r) >>= fun d => (.ok []) >>= fun ds => .ok (d :: ds)) >>= d_q_all) >>= itemsD) r fun ds => forD (q_carries_l1) ds r)
noncomputable def e_q_carries : Env → Oc := fun r => (lift (.ok (.dic [] [])) r fun d => .nx (r.set 4 (.ow .flat d))).seq fun r => ((lift ((((getS 1 r) >>= fun d => (.ok []) >>= fun ds => .ok (d :: ds)) >>= d_q_all) >>= itemsD) r fun ds => forD (q_carries_l2) ds r).seq fun r => (frzAt 4 (fun r => lift (getS 4 r) r fun d => .rt d) r))
noncomputable def d_q_carries : List D → Res D := runD 4 N_q_carries.length e_q_carries
noncomputable def q_labels_l1 : D → Env → Oc := fun d r => (into ((nameG 4) d r)).seq fun r => ((setG 3 (fun r => ((getS 0 r) >>= fun d => ((getS 2 r) >>= fun d => (.ok []) >>= fun ds => .ok (d :: ds)) >>= fun ds => .ok (d :: ds)) >>= d_q_drawn) (fun r => getS 4 r) r).seq fun r => (lift ((getS 2 r) >>= fun x => (((getS 0 r) >>= fun d => (.ok []) >>= fun ds => .ok (d :: ds)) >>= d_q_size) >>= fun y => divD x y) r fun d => .nx (r.set 2 (.sh d))))
noncomputable def e_q_labels : Env → Oc := fun r => (lift (.ok (.dic [] [])) r fun d => .nx (r.set 3 (.ow .flat d))).seq fun r => ((lift ((((getS 1 r) >>= fun d => (.ok []) >>= fun ds => .ok (d :: ds)) >>= d_q_all) >>= itemsD) r fun ds => forD (q_labels_l1) ds r).seq fun r => (giveG 3 r))
noncomputable def d_q_labels : List D → Res D := runO 3 N_q_labels.length e_q_labels
noncomputable def Rounds_members_c1 (r : Env) (ds : List D) : Res (List D) := lcD (nameG 5)
  (fun r => .ok true)
  (fun r => (getS 4 r) >>= fun x => (((getS 5 r) >>= fun d => (.ok []) >>= fun ds => .ok (d :: ds)) >>= tupD) >>= fun y => addD x y)
  (wipeR r [5]) ds
noncomputable def Rounds_members_l2 : D → Env → Oc := fun d r => (into ((nameG 4) d r)).seq fun r => (extG 3 (fun r => (((getS 2 r) >>= fun d => (.ok []) >>= fun ds => .ok (d :: ds)) >>= rng1) >>= fun ds => Rounds_members_c1 r ds >>= lstD) r)
noncomputable def Rounds_members_l3 : D → Env → Oc := fun d r => (into ((nameG 2) d r)).seq fun r => ((lift ((.ok []) >>= lstD) r fun d => .nx (r.set 3 (.ow .flat d))).seq fun r => ((lift ((getS 1 r) >>= itemsD) r fun ds => forD (Rounds_members_l2) ds r).seq fun r => (frzAt 3 (fun r => lift (getS 3 r) r fun d => .nx (r.set 1 (.sh d))) r)))
noncomputable def e_Rounds_members : Env → Oc := fun r => (lift ((((.ok []) >>= tupD) >>= fun d => (.ok []) >>= fun ds => .ok (d :: ds)) >>= lstD) r fun d => .nx (r.set 1 (.sh d))).seq fun r => ((lift (((getS 0 r) >>= fldD (plOf [0] "rounds")) >>= itemsD) r fun ds => forD (Rounds_members_l3) ds r).seq fun r => (lift (getS 1 r) r fun d => .rt d))
noncomputable def d_Rounds_members : List D → Res D := runD 1 N_Rounds_members.length e_Rounds_members
noncomputable def mt_members (c : Nat) : Option (List D → Res D) := if c = 0 then some d_Rounds_members else none
noncomputable def e_Group_size : Env → Oc := fun r => lift ((((getS 0 r) >>= fun d => mthD mt_members d >>= fun g => g []) >>= fun d => (.ok []) >>= fun ds => .ok (d :: ds)) >>= one lenD) r fun d => .rt d
noncomputable def d_Group_size : List D → Res D := runD 1 N_Group_size.length e_Group_size
noncomputable def mt_size (c : Nat) : Option (List D → Res D) := if c = 0 then some d_Group_size else none
noncomputable def e_Rounds_is_even : Env → Oc := fun r => lift (.ok (.bl true)) r fun d => .rt d
noncomputable def d_Rounds_is_even : List D → Res D := runD 1 N_Rounds_is_even.length e_Rounds_is_even
noncomputable def mt_is_even (c : Nat) : Option (List D → Res D) := if c = 0 then some d_Rounds_is_even else none
noncomputable def e_look_at_groups : Env → Oc := fun r => (lift (((((getS 0 r) >>= fun d => mthD mt_size d >>= fun g => g []) >>= fun x => (.ok (.int 16)) >>= fun y => gtD x y) >>= asB) >>= fun t => if t = true then .ok true else ((((getS 0 r) >>= fun d => mthD mt_is_even d >>= fun g => g []) >>= asB) >>= fun t => .ok (!t))) r fun t => if t = true then (.er (.exc 13 []) r) else (.nx r)).seq fun r => (lift ((((((getS 1 r) >>= fun d => ((.ok (.cls 0)) >>= fun d => (.ok []) >>= fun ds => .ok (d :: ds)) >>= fun ds => .ok (d :: ds)) >>= two (isD isC isU)) >>= asB) >>= fun t => .ok (!t)) >>= fun t => if t = true then .ok true else ((((getS 1 r) >>= fun d => mthD mt_size d >>= fun g => g []) >>= fun x => (.ok (.int 9)) >>= fun y => gtD x y) >>= asB)) r fun t => if t = true then (.er (.exc 14 []) r) else (.nx r))
noncomputable def d_look_at_groups : List D → Res D := runD 2 N_look_at_groups.length e_look_at_groups
noncomputable def e_is_whole : Env → Oc := fun r => lift (((((getS 0 r) >>= fun d => ((.ok (.ty "int")) >>= fun d => (.ok []) >>= fun ds => .ok (d :: ds)) >>= fun ds => .ok (d :: ds)) >>= two (isD isC isU)) >>= asB) >>= fun t => if t = true then (((((getS 0 r) >>= fun d => ((.ok (.ty "bool")) >>= fun d => (.ok []) >>= fun ds => .ok (d :: ds)) >>= fun ds => .ok (d :: ds)) >>= two (isD isC isU)) >>= asB) >>= fun t => .ok (.bl (!t))) else .ok (.bl false)) r fun d => .rt d
noncomputable def d_is_whole : List D → Res D := runD 1 N_is_whole.length e_is_whole
noncomputable def Rounds_has_l1 : D → Env → Oc := fun d r => (into ((tupG 2 (consG (nameG 2) (consG (nameG 3) (nilG)))) d r)).seq fun r => (lift ((((((getS 2 r) >>= fun d => (.ok []) >>= fun ds => .ok (d :: ds)) >>= d_is_whole) >>= asB) >>= fun t => .ok (!t)) >>= fun t => if t = true then .ok true else ((((getS 2 r) >>= fun x => (.ok (.int 0)) >>= fun y => ltD x y) >>= asB) >>= fun t => if t = true then .ok true else (((getS 2 r) >>= fun x => (getS 3 r) >>= fun y => geD x y) >>= asB))) r fun t => if t = true then (lift (.ok (.bl false)) r fun d => .rt d) else (.nx r))
noncomputable def e_Rounds_has : Env → Oc := fun r => (lift ((((((getS 1 r) >>= fun d => ((.ok (.ty "tuple")) >>= fun d => (.ok []) >>= fun ds => .ok (d :: ds)) >>= fun ds => .ok (d :: ds)) >>= two (isD isC isU)) >>= asB) >>= fun t => .ok (!t)) >>= fun t => if t = true then .ok true else (((((getS 1 r) >>= fun d => (.ok []) >>= fun ds => .ok (d :: ds)) >>= one lenD) >>= fun x => ((((getS 0 r) >>= fldD (plOf [0] "rounds")) >>= fun d => (.ok []) >>= fun ds => .ok (d :: ds)) >>= one lenD) >>= fun y => neD x y) >>= asB)) r fun t => if t = true then (lift (.ok (.bl false)) r fun d => .rt d) else (.nx r)).seq fun r => ((lift (((getS 1 r) >>= fun d => (((getS 0 r) >>= fldD (plOf [0] "rounds")) >>= fun d => (.ok []) >>= fun ds => .ok (d :: ds)) >>= fun ds => .ok (d :: ds)) >>= zip2D) r fun ds => forD (Rounds_has_l1) ds r).seq fun r => (lift (.ok (.bl true)) r fun d => .rt d))
noncomputable def d_Rounds_has : List D → Res D := runD 2 N_Rounds_has.length e_Rounds_has
noncomputable def mt_has (c : Nat) : Option (List D → Res D) := if c = 0 then some d_Rounds_has else none
noncomputable def Table_init_l1 : D → Env → Oc := fun d r => (into ((nameG 6) d r)).seq fun r => ((lift ((((((getS 5 r) >>= fun d => ((getS 6 r) >>= fun d => (.ok []) >>= fun ds => .ok (d :: ds)) >>= fun ds => .ok (d :: ds)) >>= tupD) >>= fun x => (getS 3 r) >>= fun y => notInD x y) >>= asB) >>= fun t => if t = true then .ok true else ((((getS 1 r) >>= fun d => mthD mt_has d >>= fun g => (((getS 3 r) >>= fun x => (((getS 5 r) >>= fun d => ((getS 6 r) >>= fun d => (.ok []) >>= fun ds => .ok (d :: ds)) >>= fun ds => .ok (d :: ds)) >>= tupD) >>= fun y => ixD x y) >>= fun d => (.ok []) >>= fun ds => .ok (d :: ds)) >>= g) >>= asB) >>= fun t => .ok (!t))) r fun t => if t = true then (lift ((getS 5 r) >>= fun d => ((getS 6 r) >>= fun d => (.ok []) >>= fun ds => .ok (d :: ds)) >>= fun ds => .ok (d :: ds)) r fun ds => raiseD 23 ds r) else (.nx r)).seq fun r => (setFI 0 2 2 (fun r => (getS 3 r) >>= fun x => (((getS 5 r) >>= fun d => ((getS 6 r) >>= fun d => (.ok []) >>= fun ds => .ok (d :: ds)) >>= fun ds => .ok (d :: ds)) >>= tupD) >>= fun y => ixD x y) (fun r => ((getS 5 r) >>= fun d => ((getS 6 r) >>= fun d => (.ok []) >>= fun ds => .ok (d :: ds)) >>= fun ds => .ok (d :: ds)) >>= tupD) r))
noncomputable def Table_init_l2 : D → Env → Oc := fun d r => (into ((nameG 5) d r)).seq fun r => (lift ((getS 4 r) >>= itemsD) r fun ds => forD (Table_init_l1) ds r)
noncomputable def e_Table_init : Env → Oc := fun r => (lift (((getS 1 r) >>= fun d => ((getS 2 r) >>= fun d => (.ok []) >>= fun ds => .ok (d :: ds)) >>= fun ds => .ok (d :: ds)) >>= d_look_at_groups) r fun _ => .nx r).seq fun r => ((lift (getS 1 r) r fun d => setF 0 2 "lower" .sh d r).seq fun r => ((lift (getS 2 r) r fun d => setF 0 2 "upper" .sh d r).seq fun r => ((lift (.ok (.dic [] [])) r fun d => setF 0 2 "kept" .flat d r).seq fun r => ((lift ((getS 2 r) >>= fun d => mthD mt_members d >>= fun g => g []) r fun d => .nx (r.set 4 (.sh d))).seq fun r => (lift ((getS 4 r) >>= itemsD) r fun ds => forD (Table_init_l2) ds r)))))
noncomputable def d_Table_init : List D → Res D := runI 3 N_Table_init.length 2 e_Table_init
noncomputable def are_rounds_l1 : D → Env → Oc := fun d r => (into ((nameG 2) d r)).seq fun r => ((lift ((((((getS 2 r) >>= fun d => (.ok []) >>= fun ds => .ok (d :: ds)) >>= d_is_whole) >>= asB) >>= fun t => .ok (!t)) >>= fun t => if t = true then .ok true else ((((getS 2 r) >>= fun x => (.ok (.int 2)) >>= fun y => ltD x y) >>= asB) >>= fun t => if t = true then .ok true else (((getS 2 r) >>= fun x => (.ok (.int 144)) >>= fun y => gtD x y) >>= asB))) r fun t => if t = true then (lift (.ok (.bl false)) r fun d => .rt d) else (.nx r)).seq fun r => (lift ((getS 1 r) >>= fun x => (getS 2 r) >>= fun y => mulD x y) r fun d => .nx (r.set 1 (.sh d))))
noncomputable def e_are_rounds : Env → Oc := fun r => (lift ((((((getS 0 r) >>= fun d => ((((.ok (.ty "list")) >>= fun d => ((.ok (.ty "tuple")) >>= fun d => (.ok []) >>= fun ds => .ok (d :: ds)) >>= fun ds => .ok (d :: ds)) >>= tupD) >>= fun d => (.ok []) >>= fun ds => .ok (d :: ds)) >>= fun ds => .ok (d :: ds)) >>= two (isD isC isU)) >>= asB) >>= fun t => .ok (!t)) >>= fun t => if t = true then .ok true else (((((getS 0 r) >>= fun d => (.ok []) >>= fun ds => .ok (d :: ds)) >>= one lenD) >>= fun x => (.ok (.int 7)) >>= fun y => gtD x y) >>= asB)) r fun t => if t = true then (lift (.ok (.bl false)) r fun d => .rt d) else (.nx r)).seq fun r => ((lift (.ok (.int 1)) r fun d => .nx (r.set 1 (.sh d))).seq fun r => ((lift ((getS 0 r) >>= itemsD) r fun ds => forD (are_rounds_l1) ds r).seq fun r => (lift ((getS 1 r) >>= fun x => (.ok (.int 144)) >>= fun y => leD x y) r fun d => .rt d)))
noncomputable def d_are_rounds : List D → Res D := runD 1 N_are_rounds.length e_are_rounds
noncomputable def e_Rounds_init : Env → Oc := fun r => (lift (((((getS 1 r) >>= fun d => (.ok []) >>= fun ds => .ok (d :: ds)) >>= d_are_rounds) >>= asB) >>= fun t => .ok (!t)) r fun t => if t = true then (.er (.exc 11 []) r) else (.nx r)).seq fun r => (lift (((getS 1 r) >>= fun d => (.ok []) >>= fun ds => .ok (d :: ds)) >>= one tupleD) r fun d => setF 0 0 "rounds" .sh d r)
noncomputable def d_Rounds_init : List D → Res D := runI 1 N_Rounds_init.length 0 e_Rounds_init
noncomputable def q_odd_thing_c1 (r : Env) (ds : List D) : Res (List D) := lcD (nameG 3)
  (fun r => .ok true)
  (fun r => .ok (.int 0))
  (wipeR r [3]) ds
noncomputable def q_odd_thing_c2 (r : Env) (ds : List D) : Res (List D) := lcD (nameG 3)
  (fun r => .ok true)
  (fun r => .ok (.int 0))
  (wipeR r [3]) ds
noncomputable def e_q_odd_thing : Env → Oc := fun r => (lift (((.ok .non) >>= fun d => ((((getS 0 r) >>= fun d => (.ok []) >>= fun ds => .ok (d :: ds)) >>= one listD) >>= fun d => ((getS 0 r) >>= fun d => (((getS 0 r) >>= fun x => (((.ok (.int 0)) >>= fun d => (.ok []) >>= fun ds => .ok (d :: ds)) >>= tupD) >>= fun y => addD x y) >>= fun d => ((.ok (.str "a")) >>= fun d => (((((((getS 0 r) >>= fun d => ((.ok (.int 1)) >>= fun d => asI d >>= fun i => .ok (some i)) >>= fun lo => (.ok none) >>= fun hi => sliceD d lo hi) >>= itemsD) >>= fun ds => q_odd_thing_c1 r ds >>= lstD) >>= fun d => (.ok []) >>= fun ds => .ok (d :: ds)) >>= one tupleD) >>= fun d => (((.ok (.int 1)) >>= negD) >>= fun d => ((.ok (.dic [] [])) >>= fun d => (.ok []) >>= fun ds => .ok (d :: ds)) >>= fun ds => .ok (d :: ds)) >>= fun ds => .ok (d :: ds)) >>= fun ds => .ok (d :: ds)) >>= fun ds => .ok (d :: ds)) >>= fun ds => .ok (d :: ds)) >>= fun ds => .ok (d :: ds)) >>= fun ds => .ok (d :: ds)) >>= lstD) r fun d => .nx (r.set 2 (.sh d))).seq fun r => ((lift (((((getS 0 r) >>= fun d => (.ok []) >>= fun ds => .ok (d :: ds)) >>= one lenD) >>= fun x => (.ok (.int 0)) >>= fun y => gtD x y) >>= asB) r fun t => if t = true then ((lift ((getS 2 r) >>= fun x => ((((((.ok (.bl true)) >>= fun d => (.ok []) >>= fun ds => .ok (d :: ds)) >>= tupD) >>= fun x => ((((((getS 0 r) >>= fun d => ((.ok (.int 1)) >>= fun d => asI d >>= fun i => .ok (some i)) >>= fun lo => (.ok none) >>= fun hi => sliceD d lo hi) >>= itemsD) >>= fun ds => q_odd_thing_c2 r ds >>= lstD) >>= fun d => (.ok []) >>= fun ds => .ok (d :: ds)) >>= one tupleD) >>= fun y => addD x y) >>= fun d => ((((((.ok (.int 1)) >>= negD) >>= fun d => (.ok []) >>= fun ds => .ok (d :: ds)) >>= tupD) >>= fun x => ((getS 0 r) >>= fun d => ((.ok (.int 1)) >>= fun d => asI d >>= fun i => .ok (some i)) >>= fun lo => (.ok none) >>= fun hi => sliceD d lo hi) >>= fun y => addD x y) >>= fun d => (((((.ok .non) >>= fun d => (.ok []) >>= fun ds => .ok (d :: ds)) >>= tupD) >>= fun x => ((getS 0 r) >>= fun d => ((.ok (.int 1)) >>= fun d => asI d >>= fun i => .ok (some i)) >>= fun lo => (.ok none) >>= fun hi => sliceD d lo hi) >>= fun y => addD x y) >>= fun d => (.ok []) >>= fun ds => .ok (d :: ds)) >>= fun ds => .ok (d :: ds)) >>= fun ds => .ok (d :: ds)) >>= lstD) >>= fun y => addD x y) r fun d => .nx (r.set 2 (.sh d))).seq fun r => (lift ((getS 2 r) >>= fun x => ((getS 1 r) >>= fun x => (.ok (.int 11)) >>= fun y => modD x y) >>= fun y => ixD x y) r fun d => .rt d)) else (.nx r)).seq fun r => (lift ((((.ok .non) >>= fun d => (((.ok []) >>= lstD) >>= fun d => ((((.ok (.int 0)) >>= fun d => (.ok []) >>= fun ds => .ok (d :: ds)) >>= tupD) >>= fun d => ((.ok (.str "")) >>= fun d => ((.ok (.int 0)) >>= fun d => ((.ok (.dic [] [])) >>= fun d => (.ok []) >>= fun ds => .ok (d :: ds)) >>= fun ds => .ok (d :: ds)) >>= fun ds => .ok (d :: ds)) >>= fun ds => .ok (d :: ds)) >>= fun ds => .ok (d :: ds)) >>= fun ds => .ok (d :: ds)) >>= lstD) >>= fun x => ((getS 1 r) >>= fun x => (.ok (.int 6)) >>= fun y => modD x y) >>= fun y => ixD x y) r fun d => .rt d))
noncomputable def d_q_odd_thing : List D → Res D := runD 2 N_q_odd_thing.length e_q_odd_thing
noncomputable def labels_of_l1 : D → Env → Oc := fun d r => (into ((nameG 4) d r)).seq fun r => ((lift ((((getS 4 r) >>= fun x => (getS 2 r) >>= fun y => notInM x y) >>= asB) >>= fun t => if t = true then .ok true else ((((getS 0 r) >>= fun d => mthD mt_has d >>= fun g => (((getS 2 r) >>= fun x => (getS 4 r) >>= fun y => ixM x y) >>= fun d => (.ok []) >>= fun ds => .ok (d :: ds)) >>= g) >>= asB) >>= fun t => .ok (!t))) r fun t => if t = true then (lift ((getS 4 r) >>= fun d => (.ok []) >>= fun ds => .ok (d :: ds)) r fun ds => raiseD 26 ds r) else (.nx r)).seq fun r => (setG 3 (fun r => (getS 2 r) >>= fun x => (getS 4 r) >>= fun y => ixM x y) (fun r => getS 4 r) r))
noncomputable def e_labels_of : Env → Oc := fun r => (lift (.ok (.dic [] [])) r fun d => .nx (r.set 3 (.ow .flat d))).seq fun r => ((lift (((getS 1 r) >>= fun d => mthD mt_members d >>= fun g => g []) >>= itemsD) r fun ds => forD (labels_of_l1) ds r).seq fun r => (frzAt 3 (fun r => lift (getS 3 r) r fun d => .rt d) r))
noncomputable def d_labels_of : List D → Res D := runD 3 N_labels_of.length e_labels_of
noncomputable def e_Table_carries : Env → Oc := fun r => lift ((((getS 0 r) >>= fldD (plOf [2] "kept")) >>= fun d => (.ok []) >>= fun ds => .ok (d :: ds)) >>= one dictD) r fun d => .rt d
noncomputable def d_Table_carries : List D → Res D := runD 1 N_Table_carries.length e_Table_carries
noncomputable def mt_carries (c : Nat) : Option (List D → Res D) := if c = 2 then some d_Table_carries else none
noncomputable def e_Group_look_at : Env → Oc := fun r => lift ((((getS 0 r) >>= fun d => mthD mt_has d >>= fun g => ((getS 1 r) >>= fun d => (.ok []) >>= fun ds => .ok (d :: ds)) >>= g) >>= asB) >>= fun t => .ok (!t)) r fun t => if t = true then (.er (.exc 12 []) r) else (.nx r)
noncomputable def d_Group_look_at : List D → Res D := runD 2 N_Group_look_at.length e_Group_look_at
noncomputable def mt_look_at (c : Nat) : Option (List D → Res D) := if c = 0 then some d_Group_look_at else none
noncomputable def Rounds_put_c1 (r : Env) (ds : List D) : Res (List D) := lcD (tupG 3 (consG (nameG 3) (consG (nameG 4) (consG (nameG 5) (nilG)))))
  (fun r => .ok true)
  (fun r => ((getS 3 r) >>= fun x => (getS 4 r) >>= fun y => addD x y) >>= fun x => (getS 5 r) >>= fun y => modD x y)
  (wipeR r [3, 4, 5]) ds
noncomputable def e_Rounds_put : Env → Oc := fun r => lift ((((((getS 1 r) >>= fun d => ((getS 2 r) >>= fun d => (((getS 0 r) >>= fldD (plOf [0] "rounds")) >>= fun d => (.ok []) >>= fun ds => .ok (d :: ds)) >>= fun ds => .ok (d :: ds)) >>= fun ds => .ok (d :: ds)) >>= zip3D) >>= fun ds => Rounds_put_c1 r ds >>= lstD) >>= fun d => (.ok []) >>= fun ds => .ok (d :: ds)) >>= one tupleD) r fun d => .rt d
noncomputable def d_Rounds_put : List D → Res D := runD 3 N_Rounds_put.length e_Rounds_put
noncomputable def mt_put (c : Nat) : Option (List D → Res D) := if c = 0 then some d_Rounds_put else none
noncomputable def e_Group_added : Env → Oc := fun r => (lift ((getS 0 r) >>= fun d => mthD mt_look_at d >>= fun g => ((getS 1 r) >>= fun d => (.ok []) >>= fun ds => .ok (d :: ds)) >>= g) r fun _ => .nx r).seq fun r => ((lift ((getS 0 r) >>= fun d => mthD mt_look_at d >>= fun g => ((getS 2 r) >>= fun d => (.ok []) >>= fun ds => .ok (d :: ds)) >>= g) r fun _ => .nx r).seq fun r => (lift ((getS 0 r) >>= fun d => mthD mt_put d >>= fun g => ((getS 1 r) >>= fun d => ((getS 2 r) >>= fun d => (.ok []) >>= fun ds => .ok (d :: ds)) >>= fun ds => .ok (d :: ds)) >>= g) r fun d => .rt d))
noncomputable def d_Group_added : List D → Res D := runD 3 N_Group_added.length e_Group_added
noncomputable def mt_added (c : Nat) : Option (List D → Res D) := if c = 0 then some d_Group_added else none
noncomputable def Rounds_backed_c1 (r : Env) (ds : List D) : Res (List D) := lcD (tupG 2 (consG (nameG 2) (consG (nameG 3) (nilG))))
  (fun r => .ok true)
  (fun r => ((.ok (.int 0)) >>= fun x => (getS 2 r) >>= fun y => subD x y) >>= fun x => (getS 3 r) >>= fun y => modD x y)
  (wipeR r [2, 3]) ds
noncomputable def e_Rounds_backed : Env → Oc := fun r => lift ((((((getS 1 r) >>= fun d => (((getS 0 r) >>= fldD (plOf [0] "rounds")) >>= fun d => (.ok []) >>= fun ds => .ok (d :: ds)) >>= fun ds => .ok (d :: ds)) >>= zip2D) >>= fun ds => Rounds_backed_c1 r ds >>= lstD) >>= fun d => (.ok []) >>= fun ds => .ok (d :: ds)) >>= one tupleD) r fun d => .rt d
noncomputable def d_Rounds_backed : List D → Res D := runD 2 N_Rounds_backed.length e_Rounds_backed
noncomputable def mt_backed (c : Nat) : Option (List D → Res D) := if c = 0 then some d_Rounds_backed else none
noncomputable def e_Group_back : Env → Oc := fun r => (lift ((getS 0 r) >>= fun d => mthD mt_look_at d >>= fun g => ((getS 1 r) >>= fun d => (.ok []) >>= fun ds => .ok (d :: ds)) >>= g) r fun _ => .nx r).seq fun r => (lift ((getS 0 r) >>= fun d => mthD mt_backed d >>= fun g => ((getS 1 r) >>= fun d => (.ok []) >>= fun ds => .ok (d :: ds)) >>= g) r fun d => .rt d)
noncomputable def d_Group_back : List D → Res D := runD 2 N_Group_back.length e_Group_back
noncomputable def mt_back (c : Nat) : Option (List D → Res D) := if c = 0 then some d_Group_back else none
noncomputable def e_own_carry : Env → Oc := fun r => lift ((getS 0 r) >>= fun d => mthD mt_added d >>= fun g => (((getS 0 r) >>= fun d => mthD mt_added d >>= fun g => (((getS 2 r) >>= fun x => (getS 3 r) >>= fun y => ixD x y) >>= fun d => (((getS 2 r) >>= fun x => (getS 4 r) >>= fun y => ixD x y) >>= fun d => (.ok []) >>= fun ds => .ok (d :: ds)) >>= fun ds => .ok (d :: ds)) >>= g) >>= fun d => (((getS 0 r) >>= fun d => mthD mt_back d >>= fun g => (((getS 2 r) >>= fun x => ((getS 1 r) >>= fun d => mthD mt_added d >>= fun g => ((getS 3 r) >>= fun d => ((getS 4 r) >>= fun d => (.ok []) >>= fun ds => .ok (d :: ds)) >>= fun ds => .ok (d :: ds)) >>= g) >>= fun y => ixD x y) >>= fun d => (.ok []) >>= fun ds => .ok (d :: ds)) >>= g) >>= fun d => (.ok []) >>= fun ds => .ok (d :: ds)) >>= fun ds => .ok (d :: ds)) >>= g) r fun d => .rt d
noncomputable def d_own_carry : List D → Res D := runD 5 N_own_carry.length e_own_carry
noncomputable def changed_l1 : D → Env → Oc := fun d r => (into ((tupG 2 (consG (nameG 4) (consG (nameG 5) (nilG)))) d r)).seq fun r => ((lift ((((getS 0 r) >>= fldD (plOf [2] "lower")) >>= fun d => (((getS 0 r) >>= fldD (plOf [2] "upper")) >>= fun d => ((getS 2 r) >>= fun d => (((getS 4 r) >>= fun x => (.ok (.int 0)) >>= fun y => ixD x y) >>= fun d => (((getS 4 r) >>= fun x => (.ok (.int 1)) >>= fun y => ixD x y) >>= fun d => (.ok []) >>= fun ds => .ok (d :: ds)) >>= fun ds => .ok (d :: ds)) >>= fun ds => .ok (d :: ds)) >>= fun ds => .ok (d :: ds)) >>= fun ds => .ok (d :: ds)) >>= d_own_carry) r fun d => .nx (r.set 6 (.sh d))).seq fun r => (setG 3 (fun r => ((getS 0 r) >>= fldD (plOf [2] "lower")) >>= fun d => mthD mt_added d >>= fun g => ((getS 5 r) >>= fun d => ((getS 6 r) >>= fun d => (.ok []) >>= fun ds => .ok (d :: ds)) >>= fun ds => .ok (d :: ds)) >>= g) (fun r => getS 4 r) r))
noncomputable def e_changed : Env → Oc := fun r => (lift ((((getS 0 r) >>= fldD (plOf [2] "lower")) >>= fun d => (((getS 0 r) >>= fldD (plOf [2] "upper")) >>= fun d => ((getS 1 r) >>= fun d => (.ok []) >>= fun ds => .ok (d :: ds)) >>= fun ds => .ok (d :: ds)) >>= fun ds => .ok (d :: ds)) >>= d_labels_of) r fun d => .nx (r.set 2 (.sh d))).seq fun r => ((lift (.ok (.dic [] [])) r fun d => .nx (r.set 3 (.ow .flat d))).seq fun r => ((lift (((getS 0 r) >>= fun d => mthD mt_carries d >>= fun g => g []) >>= pairsD) r fun ds => forD (changed_l1) ds r).seq fun r => (frzAt 3 (fun r => lift ((((getS 0 r) >>= fldD (plOf [2] "lower")) >>= fun d => (((getS 0 r) >>= fldD (plOf [2] "upper")) >>= fun d => ((getS 3 r) >>= fun d => (.ok []) >>= fun ds => .ok (d :: ds)) >>= fun ds => .ok (d :: ds)) >>= fun ds => .ok (d :: ds)) >>= d_Table_init) r fun d => .rt d) r)))
noncomputable def d_changed : List D → Res D := runD 2 N_changed.length e_changed
noncomputable def e_q_lacks : Env → Oc := fun r => (lift (.ok .non) r fun d => .nx (r.set 2 (.sh d))).seq fun r => ((tryD ctC ctU (fun r => lift (((getS 0 r) >>= fun d => ((getS 1 r) >>= fun d => (.ok []) >>= fun ds => .ok (d :: ds)) >>= fun ds => .ok (d :: ds)) >>= d_changed) r fun _ => .nx r) [⟨10, some 3, fun r => (lift (.ok (.str "another one")) r fun d => .nx (r.set 2 (.sh d))).seq fun r => (lift ((((getS 3 r) >>= fun d => ((.ok (.cls 26)) >>= fun d => (.ok []) >>= fun ds => .ok (d :: ds)) >>= fun ds => .ok (d :: ds)) >>= two (isD isC isU)) >>= asB) r fun t => if t = true then (lift ((getS 3 r) >>= fldE (plOf [23, 26] "x")) r fun d => .nx (r.set 2 (.sh d))) else (.nx r))⟩] r).seq fun r => (lift (getS 2 r) r fun d => .rt d))
noncomputable def d_q_lacks : List D → Res D := runD 2 N_q_lacks.length e_q_lacks
noncomputable def e_q_whole : Env → Oc := fun r => lift (((((getS 0 r) >>= fun d => ((.ok (.ty "int")) >>= fun d => (.ok []) >>= fun ds => .ok (d :: ds)) >>= fun ds => .ok (d :: ds)) >>= two (isD isC isU)) >>= asB) >>= fun t => if t = true then (((((getS 0 r) >>= fun d => ((.ok (.ty "bool")) >>= fun d => (.ok []) >>= fun ds => .ok (d :: ds)) >>= fun ds => .ok (d :: ds)) >>= two (isD isC isU)) >>= asB) >>= fun t => .ok (.bl (!t))) else .ok (.bl false)) r fun d => .rt d
noncomputable def d_q_whole : List D → Res D := runD 1 N_q_whole.length e_q_whole
noncomputable def q_are_c1 (r : Env) (ds : List D) : Res (List D) := lcD (nameG 2)
  (fun r => .ok true)
  (fun r => ((getS 2 r) >>= fun d => (.ok []) >>= fun ds => .ok (d :: ds)) >>= d_q_whole)
  (wipeR r [2]) ds
noncomputable def e_q_are : Env → Oc := fun r => lift (((((getS 0 r) >>= fun d => ((.ok (.ty "tuple")) >>= fun d => (.ok []) >>= fun ds => .ok (d :: ds)) >>= fun ds => .ok (d :: ds)) >>= two (isD isC isU)) >>= asB) >>= fun t => if t = true then ((((((getS 0 r) >>= fun d => (.ok []) >>= fun ds => .ok (d :: ds)) >>= one lenD) >>= fun x => (getS 1 r) >>= fun y => eqD x y) >>= asB) >>= fun t => if t = true then (((((getS 0 r) >>= itemsD) >>= fun ds => q_are_c1 r ds >>= lstD) >>= fun d => (.ok []) >>= fun ds => .ok (d :: ds)) >>= one allT) else .ok (.bl false)) else .ok (.bl false)) r fun d => .rt d
noncomputable def d_q_are : List D → Res D := runD 2 N_q_are.length e_q_are
noncomputable def q_table_is_c1 (r : Env) (ds : List D) : Res (List D) := lcD (nameG 5)
  (fun r => .ok true)
  (fun r => (((getS 4 r) >>= fun x => (getS 5 r) >>= fun y => ixD x y) >>= fun d => ((((getS 1 r) >>= fun d => (.ok []) >>= fun ds => .ok (d :: ds)) >>= one lenD) >>= fun d => (.ok []) >>= fun ds => .ok (d :: ds)) >>= fun ds => .ok (d :: ds)) >>= d_q_are)
  (wipeR r [5]) ds
noncomputable def e_q_table_is : Env → Oc := fun r => (lift ((((((getS 0 r) >>= fun d => ((.ok (.cls 2)) >>= fun d => (.ok []) >>= fun ds => .ok (d :: ds)) >>= fun ds => .ok (d :: ds)) >>= two (isD isC isU)) >>= asB) >>= fun t => .ok (!t)) >>= fun t => if t = true then .ok true else ((((((getS 0 r) >>= fldD (plOf [2] "lower")) >>= fldD (plOf [0] "rounds")) >>= fun x => (getS 1 r) >>= fun y => neD x y) >>= asB) >>= fun t => if t = true then .ok true else (((((getS 0 r) >>= fldD (plOf [2] "upper")) >>= fldD (plOf [0] "rounds")) >>= fun x => (getS 2 r) >>= fun y => neD x y) >>= asB))) r fun t => if t = true then (lift (.ok (.bl false)) r fun d => .rt d) else (.nx r)).seq fun r => ((lift ((getS 0 r) >>= fun d => mthD mt_carries d >>= fun g => g []) r fun d => .nx (r.set 4 (.sh d))).seq fun r => (lift ((((getS 4 r) >>= fun x => (getS 3 r) >>= fun y => eqD x y) >>= asB) >>= fun t => if t = true then (((((getS 3 r) >>= itemsD) >>= fun ds => q_table_is_c1 r ds >>= lstD) >>= fun d => (.ok []) >>= fun ds => .ok (d :: ds)) >>= one allT) else .ok (.bl false)) r fun d => .rt d))
noncomputable def d_q_table_is : List D → Res D := runD 4 N_q_table_is.length e_q_table_is
noncomputable def law_s1 : Env → Oc := fun r => lift (((((getS 0 r) >>= fun d => ((.ok (.int 0)) >>= fun d => (.ok []) >>= fun ds => .ok (d :: ds)) >>= fun ds => .ok (d :: ds)) >>= d_q_cell) >>= fun d => ((.ok (.int 16)) >>= fun d => (.ok []) >>= fun ds => .ok (d :: ds)) >>= fun ds => .ok (d :: ds)) >>= d_q_rounds) r fun d => into ((tupG 2 (consG (nameG 1) (consG (nameG 2) (nilG)))) d r)
noncomputable def law_s2 : Env → Oc := fun r => lift (((getS 1 r) >>= fun d => ((getS 2 r) >>= fun d => ((((getS 0 r) >>= fun d => ((.ok (.int 1)) >>= fun d => (.ok []) >>= fun ds => .ok (d :: ds)) >>= fun ds => .ok (d :: ds)) >>= d_q_cell) >>= fun d => (.ok []) >>= fun ds => .ok (d :: ds)) >>= fun ds => .ok (d :: ds)) >>= fun ds => .ok (d :: ds)) >>= d_q_any) r fun d => .nx (r.set 3 (.sh d))
noncomputable def law_s3_1 : Env → Oc := fun r => lift (((getS 1 r) >>= fun d => ((getS 2 r) >>= fun d => ((((getS 0 r) >>= fun d => ((.ok (.int 1)) >>= fun d => (.ok []) >>= fun ds => .ok (d :: ds)) >>= fun ds => .ok (d :: ds)) >>= d_q_cell) >>= fun d => (.ok []) >>= fun ds => .ok (d :: ds)) >>= fun ds => .ok (d :: ds)) >>= fun ds => .ok (d :: ds)) >>= d_q_parts) r fun d => .nx (r.set 4 (.sh d))
noncomputable def law_s3_2 : Env → Oc := fun r => lift (((getS 1 r) >>= fun d => ((getS 2 r) >>= fun d => ((getS 4 r) >>= fun d => ((((getS 1 r) >>= fun d => ((getS 2 r) >>= fun d => ((((getS 0 r) >>= fun d => ((.ok (.int 2)) >>= fun d => (.ok []) >>= fun ds => .ok (d :: ds)) >>= fun ds => .ok (d :: ds)) >>= d_q_cell) >>= fun d => (.ok []) >>= fun ds => .ok (d :: ds)) >>= fun ds => .ok (d :: ds)) >>= fun ds => .ok (d :: ds)) >>= d_q_labels) >>= fun d => (.ok []) >>= fun ds => .ok (d :: ds)) >>= fun ds => .ok (d :: ds)) >>= fun ds => .ok (d :: ds)) >>= fun ds => .ok (d :: ds)) >>= d_q_carries) r fun d => .nx (r.set 3 (.sh d))
noncomputable def law_s3 : Env → Oc := fun r => lift ((((((getS 0 r) >>= fun d => ((.ok (.int 2)) >>= fun d => (.ok []) >>= fun ds => .ok (d :: ds)) >>= fun ds => .ok (d :: ds)) >>= d_q_cell) >>= fun x => (.ok (.int 2)) >>= fun y => modD x y) >>= fun x => (.ok (.int 0)) >>= fun y => eqD x y) >>= asB) r fun t => if t = true then ((law_s3_1 r).seq fun r => (law_s3_2 r)) else (.nx r)
noncomputable def law_s4 : Env → Oc := fun r => lift (((((getS 1 r) >>= fun d => (.ok []) >>= fun ds => .ok (d :: ds)) >>= d_Rounds_init) >>= fun d => ((((getS 2 r) >>= fun d => (.ok []) >>= fun ds => .ok (d :: ds)) >>= d_Rounds_init) >>= fun d => ((((getS 3 r) >>= fun d => (.ok []) >>= fun ds => .ok (d :: ds)) >>= one dictD) >>= fun d => (.ok []) >>= fun ds => .ok (d :: ds)) >>= fun ds => .ok (d :: ds)) >>= fun ds => .ok (d :: ds)) >>= d_Table_init) r fun d => .nx (r.set 5 (.sh d))
noncomputable def law_s5 : Env → Oc := fun r => lift (((getS 1 r) >>= fun d => ((getS 2 r) >>= fun d => ((((getS 0 r) >>= fun d => ((.ok (.int 3)) >>= fun d => (.ok []) >>= fun ds => .ok (d :: ds)) >>= fun ds => .ok (d :: ds)) >>= d_q_cell) >>= fun d => (.ok []) >>= fun ds => .ok (d :: ds)) >>= fun ds => .ok (d :: ds)) >>= fun ds => .ok (d :: ds)) >>= d_q_labels) r fun d => .nx (r.set 6 (.ow .flat d))
noncomputable def law_s6 : Env → Oc := fun r => lift (((getS 2 r) >>= fun d => (.ok []) >>= fun ds => .ok (d :: ds)) >>= d_q_all) r fun d => .nx (r.set 7 (.sh d))
noncomputable def law_s7_1 : Env → Oc := fun r => lift ((getS 7 r) >>= fun x => ((((getS 0 r) >>= fun d => ((.ok (.int 5)) >>= fun d => (.ok []) >>= fun ds => .ok (d :: ds)) >>= fun ds => .ok (d :: ds)) >>= d_q_cell) >>= fun x => (((getS 7 r) >>= fun d => (.ok []) >>= fun ds => .ok (d :: ds)) >>= one lenD) >>= fun y => modD x y) >>= fun y => ixD x y) r fun d => .nx (r.set 8 (.sh d))
noncomputable def law_s7_2 : Env → Oc := fun r => lift ((getS 7 r) >>= fun x => ((((getS 0 r) >>= fun d => ((.ok (.int 6)) >>= fun d => (.ok []) >>= fun ds => .ok (d :: ds)) >>= fun ds => .ok (d :: ds)) >>= d_q_cell) >>= fun x => (((getS 7 r) >>= fun d => (.ok []) >>= fun ds => .ok (d :: ds)) >>= one lenD) >>= fun y => modD x y) >>= fun y => ixD x y) r fun d => .nx (r.set 9 (.sh d))
noncomputable def law_s7_3 : Env → Oc := fun r => setG 6 (fun r => ((getS 1 r) >>= fun d => ((((getS 0 r) >>= fun d => ((.ok (.int 7)) >>= fun d => (.ok []) >>= fun ds => .ok (d :: ds)) >>= fun ds => .ok (d :: ds)) >>= d_q_cell) >>= fun d => (.ok []) >>= fun ds => .ok (d :: ds)) >>= fun ds => .ok (d :: ds)) >>= d_q_odd_thing) (fun r => getS 8 r) r
noncomputable def law_s7_4 : Env → Oc := fun r => popG 6 (fun r => getS 9 r) r
noncomputable def law_s7 : Env → Oc := fun r => lift ((((((getS 0 r) >>= fun d => ((.ok (.int 4)) >>= fun d => (.ok []) >>= fun ds => .ok (d :: ds)) >>= fun ds => .ok (d :: ds)) >>= d_q_cell) >>= fun x => (.ok (.int 4)) >>= fun y => modD x y) >>= fun x => (.ok (.int 1)) >>= fun y => eqD x y) >>= asB) r fun t => if t = true then ((law_s7_1 r).seq fun r => ((law_s7_2 r).seq fun r => ((law_s7_3 r).seq fun r => ((law_s7_4 r).seq fun r => (frzAt 6 (fun r => lift ((((((getS 5 r) >>= fun d => ((getS 6 r) >>= fun d => (.ok []) >>= fun ds => .ok (d :: ds)) >>= fun ds => .ok (d :: ds)) >>= d_q_lacks) >>= fun x => (((getS 8 r) >>= fun d => ((getS 9 r) >>= fun d => (.ok []) >>= fun ds => .ok (d :: ds)) >>= fun ds => .ok (d :: ds)) >>= two minTD) >>= fun y => eqD x y) >>= asB) >>= fun t => if t = true then (((getS 5 r) >>= fun d => mthD mt_carries d >>= fun g => g []) >>= fun x => (getS 3 r) >>= fun y => eqD x y) else .ok (.bl false)) r fun d => .rt d) r))))) else (.nx r)
noncomputable def law_s8 : Env → Oc := fun r => lift (.ok (.dic [] [])) r fun d => .nx (r.set 10 (.ow .flat d))
noncomputable def law_s9_1 : Env → Oc := fun r => frzAt 6 (fun r => setG 10 (fun r => ((getS 1 r) >>= fun d => (((getS 3 r) >>= fun x => (((getS 11 r) >>= fun d => ((getS 12 r) >>= fun d => (.ok []) >>= fun ds => .ok (d :: ds)) >>= fun ds => .ok (d :: ds)) >>= tupD) >>= fun y => ixD x y) >>= fun d => ((((getS 1 r) >>= fun d => ((getS 2 r) >>= fun d => ((getS 6 r) >>= fun d => ((getS 11 r) >>= fun d => ((getS 12 r) >>= fun d => (.ok []) >>= fun ds => .ok (d :: ds)) >>= fun ds => .ok (d :: ds)) >>= fun ds => .ok (d :: ds)) >>= fun ds => .ok (d :: ds)) >>= fun ds => .ok (d :: ds)) >>= d_q_own) >>= fun d => (.ok []) >>= fun ds => .ok (d :: ds)) >>= fun ds => .ok (d :: ds)) >>= fun ds => .ok (d :: ds)) >>= d_q_sum) (fun r => ((getS 11 r) >>= fun d => ((getS 12 r) >>= fun d => (.ok []) >>= fun ds => .ok (d :: ds)) >>= fun ds => .ok (d :: ds)) >>= tupD) r) r
noncomputable def law_l1 : D → Env → Oc := fun d r => (into ((tupG 2 (consG (nameG 11) (consG (nameG 12) (nilG)))) d r)).seq fun r => (law_s9_1 r)
noncomputable def law_s9 : Env → Oc := fun r => lift ((getS 3 r) >>= itemsD) r fun ds => forD (law_l1) ds r
noncomputable def law_s10 : Env → Oc := fun r => lift (((getR 6 r) >>= fun d => (.ok []) >>= fun ds => .ok (d :: ds)) >>= one dictD) r fun d => .nx (r.set 13 (.ow .flat d))
noncomputable def law_s11 : Env → Oc := fun r => setMG 13 (fun r => ((.ok (.int 7)) >>= fun d => (.ok []) >>= fun ds => .ok (d :: ds)) >>= tupD) (fun r => .ok (.int 7)) r
noncomputable def law_s12 : Env → Oc := fun r => lift (lendMR 13 (fun r => ((getS 5 r) >>= fun d => ((getS 13 r) >>= fun d => (.ok []) >>= fun ds => .ok (d :: ds)) >>= fun ds => .ok (d :: ds)) >>= d_changed) r) r fun d => .nx (r.set 14 (.sh d))
noncomputable def law_s13 : Env → Oc := fun r => popMG 13 (fun r => .ok (.int 7)) r
noncomputable def law_s14 : Env → Oc := fun r => frzAt 10 (fun r => lift ((((getR 13 r) >>= fun x => (getR 6 r) >>= fun y => neD x y) >>= asB) >>= fun t => if t = true then .ok true else ((((((getS 14 r) >>= fun d => ((getS 1 r) >>= fun d => ((getS 2 r) >>= fun d => ((getS 10 r) >>= fun d => (.ok []) >>= fun ds => .ok (d :: ds)) >>= fun ds => .ok (d :: ds)) >>= fun ds => .ok (d :: ds)) >>= fun ds => .ok (d :: ds)) >>= d_q_table_is) >>= asB) >>= fun t => .ok (!t)) >>= fun t => if t = true then .ok true else ((((getS 5 r) >>= fun d => mthD mt_carries d >>= fun g => g []) >>= fun x => (getS 3 r) >>= fun y => neD x y) >>= asB))) r fun t => if t = true then (lift (.ok (.bl false)) r fun d => .rt d) else (.nx r)) r
noncomputable def law_s15 : Env → Oc := fun r => lift (.ok (.dic [] [])) r fun d => .nx (r.set 15 (.ow .flat d))
noncomputable def law_c2 (r : Env) (ds : List D) : Res (List D) := lcD (nameG 16)
  (fun r => .ok true)
  (fun r => .ok (.int 0))
  (wipeR r [16]) ds
noncomputable def law_s16_1 : Env → Oc := fun r => setG 15 (fun r => ((((getS 1 r) >>= itemsD) >>= fun ds => law_c2 r ds >>= lstD) >>= fun d => (.ok []) >>= fun ds => .ok (d :: ds)) >>= one tupleD) (fun r => getS 11 r) r
noncomputable def law_l3 : D → Env → Oc := fun d r => (into ((nameG 11) d r)).seq fun r => (law_s16_1 r)
noncomputable def law_s16 : Env → Oc := fun r => lift ((getS 7 r) >>= itemsD) r fun ds => forD (law_l3) ds r
noncomputable def law_s17 : Env → Oc := fun r => clrG 13 r
noncomputable def law_s18 : Env → Oc := fun r => frzAt 15 (fun r => lift (((((((getS 5 r) >>= fun d => ((getS 15 r) >>= fun d => (.ok []) >>= fun ds => .ok (d :: ds)) >>= fun ds => .ok (d :: ds)) >>= d_changed) >>= fun d => ((getS 1 r) >>= fun d => ((getS 2 r) >>= fun d => ((getS 3 r) >>= fun d => (.ok []) >>= fun ds => .ok (d :: ds)) >>= fun ds => .ok (d :: ds)) >>= fun ds => .ok (d :: ds)) >>= fun ds => .ok (d :: ds)) >>= d_q_table_is) >>= asB) >>= fun t => if t = true then (((getS 14 r) >>= fun d => mthD mt_carries d >>= fun g => g []) >>= fun x => (getR 10 r) >>= fun y => eqD x y) else .ok (.bl false)) r fun d => .rt d) r
noncomputable def e_law : Env → Oc := fun r => (law_s1 r).seq fun r => ((law_s2 r).seq fun r => ((law_s3 r).seq fun r => ((law_s4 r).seq fun r => ((law_s5 r).seq fun r => ((law_s6 r).seq fun r => ((law_s7 r).seq fun r => ((law_s8 r).seq fun r => ((law_s9 r).seq fun r => ((law_s10 r).seq fun r => ((law_s11 r).seq fun r => ((law_s12 r).seq fun r => ((law_s13 r).seq fun r => ((law_s14 r).seq fun r => ((law_s15 r).seq fun r => ((law_s16 r).seq fun r => ((law_s17 r).seq fun r => (law_s18 r)))))))))))))))))
noncomputable def d_law : List D → Res D := runD 1 N_law.length e_law
structure Txt (P : Program) (w : World) (K : PySem.W.Frag) (mg : Str → Option Value) (base : Heap) : Prop where
  zz : True
  n_len : mg "len" = none
  n_range : mg "range" = none
  n_tuple : mg "tuple" = none
  n_zip : mg "zip" = none
  c_Table : mg (cname 2) = some (.ref ((⟨P, w, K, mg⟩ : GC).ca 2))
  f_rounds : FldM K (⟨P, w, K, mg⟩ : GC).ca "rounds" (plOf [0] "rounds")
  g_MOST_LOWER : ∃ t, mg "MOST_LOWER" = some (.int 16 t)
  c_NoLower : mg (cname 13) = some (.ref ((⟨P, w, K, mg⟩ : GC).ca 13))
  e_NoLower : ExM0 K mg ((⟨P, w, K, mg⟩ : GC).ca 13) 13
  n_isinstance : mg "isinstance" = none
  c_Rounds : mg (cname 0) = some (.ref ((⟨P, w, K, mg⟩ : GC).ca 0))
  g_MOST_UPPER : ∃ t, mg "MOST_UPPER" = some (.int 9 t)
  c_NoUpper : mg (cname 14) = some (.ref ((⟨P, w, K, mg⟩ : GC).ca 14))
  e_NoUpper : ExM0 K mg ((⟨P, w, K, mg⟩ : GC).ca 14) 14
  f_lower : FldM K (⟨P, w, K, mg⟩ : GC).ca "lower" (plOf [2] "lower")
  cl_Table_lower : ClM K (⟨P, w, K, mg⟩ : GC).ca "lower" 2
  f_upper : FldM K (⟨P, w, K, mg⟩ : GC).ca "upper" (plOf [2] "upper")
  cl_Table_upper : ClM K (⟨P, w, K, mg⟩ : GC).ca "upper" 2
  f_kept : FldM K (⟨P, w, K, mg⟩ : GC).ca "kept" (plOf [2] "kept")
  cl_Table_kept : ClM K (⟨P, w, K, mg⟩ : GC).ca "kept" 2
  n_int : mg "int" = none
  n_bool : mg "bool" = none
  c_NoCarry : mg (cname 23) = some (.ref ((⟨P, w, K, mg⟩ : GC).ca 23))
  e_NoCarry : ExMA P w K mg base ((⟨P, w, K, mg⟩ : GC).ca 23) 23
  n_list : mg "list" = none
  g_MOST_ROUNDS : ∃ t, mg "MOST_ROUNDS" = some (.int 7 t)
  g_MOST_ELEMENTS : ∃ t, mg "MOST_ELEMENTS" = some (.int 144 t)
  c_NoRounds : mg (cname 11) = some (.ref ((⟨P, w, K, mg⟩ : GC).ca 11))
  e_NoRounds : ExM0 K mg ((⟨P, w, K, mg⟩ : GC).ca 11) 11
  cl_Rounds_rounds : ClM K (⟨P, w, K, mg⟩ : GC).ca "rounds" 0
  n_dict : mg "dict" = none
  c_NoRelabeling : mg (cname 26) = some (.ref ((⟨P, w, K, mg⟩ : GC).ca 26))
  e_NoRelabeling : ExMA P w K mg base ((⟨P, w, K, mg⟩ : GC).ca 26) 26
  c_NoElement : mg (cname 12) = some (.ref ((⟨P, w, K, mg⟩ : GC).ca 12))
  e_NoElement : ExM0 K mg ((⟨P, w, K, mg⟩ : GC).ca 12) 12
  c_CarryError : mg (cname 10) = some (.ref ((⟨P, w, K, mg⟩ : GC).ca 10))
  x_x : FldX K (⟨P, w, K, mg⟩ : GC).ca "x" (plOf [23, 26] "x")
  n_min : mg "min" = none
  n_all : mg "all" = none
  isM : IsM K (⟨P, w, K, mg⟩ : GC).ca isC isU
  ctM : CtM K (⟨P, w, K, mg⟩ : GC).ca ctC ctU
section
variable {P : Program} {w : World} {K : PySem.W.Frag} {mg : Str → Option Value} {base : Heap}
theorem b_q_rounds (T : Txt P w K mg base) {f : Addr} (cdv : Value) (A : Around) (outer : List PySem.Env) (s : Shared) (H : Hp) (E : XK) (hr : Room 0 (A.deeper (envOfC "_law_rounds" (defScope s_q_rounds) s.heap.objs.size f cdv))) :
    RSs (cxOf (L2N.CX P w) P w K mg base N_q_rounds "_law_rounds" (defScope s_q_rounds) f cdv A outer s H E) (WD E) .S (defBody s_q_rounds) e_q_rounds :=
  rss_cons (rs_set 2 sc_q_rounds.nd (re_share (re_lst (ra_cons (re_tup (ra_cons (re_int) (ra_nil))) (ra_cons (re_tup (ra_cons (re_int) (ra_nil))) (ra_cons (re_tup (ra_cons (re_int) (ra_nil))) (ra_cons (re_tup (ra_cons (re_int) (ra_cons (re_int) (ra_nil)))) (ra_cons (re_tup (ra_cons (re_int) (ra_nil))) (ra_cons (re_tup (ra_cons (re_int) (ra_nil))) (ra_cons (re_tup (ra_cons (re_int) (ra_cons (re_int) (ra_nil)))) (ra_cons (re_tup (ra_cons (re_int) (ra_nil))) (ra_nil))))))))))))
    (rss_cons (rs_set 2 sc_q_rounds.nd (re_add (re_rd (re_var 2)) (re_rd (re_lst (ra_cons (re_tup (ra_cons (re_int) (ra_nil))) (ra_cons (re_tup (ra_cons (re_int) (ra_cons (re_int) (ra_nil)))) (ra_cons (re_tup (ra_cons (re_int) (ra_cons (re_int) (ra_nil)))) (ra_cons (re_tup (ra_nil)) (ra_cons (re_tup (ra_cons (re_int) (ra_nil))) (ra_cons (re_tup (ra_cons (re_int) (ra_cons (re_int) (ra_cons (re_int) (ra_nil))))) (ra_cons (re_tup (ra_cons (re_int) (ra_nil))) (ra_cons (re_tup (ra_cons (re_int) (ra_cons (re_int) (ra_nil)))) (ra_nil)))))))))))))
    (rss_cons (rs_set 3 sc_q_rounds.nd (re_share (re_lst (ra_cons (re_tup (ra_cons (re_int) (ra_nil))) (ra_cons (re_tup (ra_cons (re_int) (ra_nil))) (ra_cons (re_tup (ra_cons (re_int) (ra_cons (re_int) (ra_nil)))) (ra_cons (re_tup (ra_cons (re_int) (ra_nil))) (ra_cons (re_tup (ra_nil)) (ra_cons (re_tup (ra_cons (re_int) (ra_cons (re_int) (ra_nil)))) (ra_cons (re_tup (ra_cons (re_int) (ra_nil))) (ra_cons (re_tup (ra_cons (re_int) (ra_nil))) (ra_nil))))))))))))
    (rss_cons (rs_set 3 sc_q_rounds.nd (re_add (re_rd (re_var 3)) (re_rd (re_lst (ra_cons (re_tup (ra_cons (re_int) (ra_cons (re_int) (ra_nil)))) (ra_cons (re_tup (ra_cons (re_int) (ra_nil))) (ra_cons (re_tup (ra_cons (re_int) (ra_cons (re_int) (ra_cons (re_int) (ra_nil))))) (ra_cons (re_tup (ra_cons (re_int) (ra_cons (re_int) (ra_nil)))) (ra_cons (re_tup (ra_cons (re_int) (ra_cons (re_int) (ra_nil)))) (ra_cons (re_tup (ra_cons (re_int) (ra_nil))) (ra_cons (re_tup (ra_cons (re_int) (ra_nil))) (ra_cons (re_tup (ra_cons (re_int) (ra_nil))) (ra_nil)))))))))))))
    (rss_one (rs_ret (re_tup (ra_cons (re_ix hr (re_rd (re_var 2)) (re_rd (re_mod (re_rd (re_var 0)) (re_rd (re_int))))) (ra_cons (re_ix hr (re_rd (re_var 3)) (re_rd (re_mod (re_rd (re_div (re_rd (re_var 0)) (re_rd (re_int)))) (re_rd (re_var 1))))) (ra_nil)))))))))
theorem b_q_cell (T : Txt P w K mg base) {f : Addr} (cdv : Value) (A : Around) (outer : List PySem.Env) (s : Shared) (H : Hp) (E : XK) (hr : Room 0 (A.deeper (envOfC "_law_cell" (defScope s_q_cell) s.heap.objs.size f cdv))) :
    RSs (cxOf (L2N.CX P w) P w K mg base N_q_cell "_law_cell" (defScope s_q_cell) f cdv A outer s H E) (WD E) .S (defBody s_q_cell) e_q_cell :=
  rss_cons (rs_set 2 sc_q_cell.nd (re_int))
    (rss_cons (rs_if (rt_cp (c_gt) (re_rd (re_blt (b_len T.n_len) (rar_cons (re_rd (re_var 0)) (rar_nil)))) (re_rd (re_int)))
    (rss_cons (rs_set 2 sc_q_cell.nd (re_ix hr (re_rd (re_var 0)) (re_rd (re_mod (re_rd (re_var 1)) (re_rd (re_blt (b_len T.n_len) (rar_cons (re_rd (re_var 0)) (rar_nil))))))))
    (rss_one (rs_if (rt_cp (c_eq hr) (re_rd (re_mod (re_rd (re_ix hr (re_rd (re_var 0)) (re_rd (re_int)))) (re_rd (re_int)))) (re_rd (re_int)))
    (rss_one (rs_ret (re_div (re_rd (re_var 2)) (re_rd (re_int)))))
    (rss_nil))))
    (rss_nil))
    (rss_cons (rs_set 3 sc_q_cell.nd (re_mod (re_rd (re_mul (re_rd (re_add (re_rd (re_add (re_rd (re_mod (re_rd (re_var 2)) (re_rd (re_int)))) (re_rd (re_mul (re_rd (re_int)) (re_rd (re_var 1)))))) (re_rd (re_int)))) (re_rd (re_int)))) (re_rd (re_int))))
    (rss_cons (rs_set 4 sc_q_cell.nd (re_var 3))
    (rss_cons (rs_for (passes_of rfl) rfl (by exact (ri_range1 (b := true) T.n_range (rar_cons (re_rd (re_int)) (rar_nil)))) (by exact (gN 5 sc_q_cell.nd))
    (by exact (rss_cons (rs_set 3 sc_q_cell.nd (re_mod (re_rd (re_add (re_rd (re_mul (re_rd (re_var 3)) (re_rd (re_int)))) (re_rd (re_int)))) (re_rd (re_int))))
    (rss_one (rs_set 4 sc_q_cell.nd (re_add (re_rd (re_mul (re_rd (re_var 4)) (re_rd (re_int)))) (re_rd (re_var 3))))))))
    (rss_one (rs_ret (re_var 4)))))))
theorem b_q_all (T : Txt P w K mg base) {f : Addr} (cdv : Value) (A : Around) (outer : List PySem.Env) (s : Shared) (H : Hp) (E : XK) (hr : Room 0 (A.deeper (envOfC "_law_all" (defScope s_q_all) s.heap.objs.size f cdv))) :
    RSs (cxOf (L2N.CX P w) P w K mg base N_q_all "_law_all" (defScope s_q_all) f cdv A outer s H E) (WD E) .S (defBody s_q_all) e_q_all :=
  rss_cons (rs_set 1 sc_q_all.nd (re_share (re_lst (ra_cons (re_tup (ra_nil)) (ra_nil)))))
    (rss_cons (rs_for (passes_of rfl) rfl (by exact (re_iter (re_var 0))) (by exact (gN 2 sc_q_all.nd))
    (by exact (rss_cons (rs_setO 3 sc_q_all.nd (re_lst (ra_nil)))
    (rss_cons (rs_for (passes_of rfl) rfl (by exact (re_iter (re_var 1))) (by exact (gN 4 sc_q_all.nd))
    (by exact (rss_one (rs_extend 3 (re_share (re_lc [("_law_k", 5)] rfl sc_q_all.nd (ri_range1 (b := true) T.n_range (rar_cons (re_rd (re_var 2)) (rar_nil))) (blkOk_by (N := N_q_all) (sc := defScope s_q_all) (by decide +kernel)) (fun _ _ _ _ _ _ => by exact (gN 5 sc_q_all.nd)) (fun _ _ _ _ _ => by exact (rts_nil)) (fun _ _ _ _ _ => by exact (re_add (re_rd (re_var 4)) (re_rd (re_tup (ra_cons (re_var 5) (ra_nil))))))))))))
    (rss_one (rs_frz 3 (rs_set 1 sc_q_all.nd (re_var 3))))))))
    (rss_one (rs_ret (re_var 1))))
theorem b_q_drawn (T : Txt P w K mg base) {f : Addr} (cdv : Value) (A : Around) (outer : List PySem.Env) (s : Shared) (H : Hp) (E : XK) (hr : Room 0 (A.deeper (envOfC "_law_drawn" (defScope s_q_drawn) s.heap.objs.size f cdv))) :
    RSs (cxOf (L2N.CX P w) P w K mg base N_q_drawn "_law_drawn" (defScope s_q_drawn) f cdv A outer s H E) (WD E) .S (defBody s_q_drawn) e_q_drawn :=
  rss_cons (rs_setO 2 sc_q_drawn.nd (re_lst (ra_nil)))
    (rss_cons (rs_for (passes_of rfl) rfl (by exact (re_iter (re_var 0))) (by exact (gN 3 sc_q_drawn.nd))
    (by exact (rss_cons (rs_append 2 (re_mod (re_rd (re_var 1)) (re_rd (re_var 3))))
    (rss_one (rs_set 1 sc_q_drawn.nd (re_div (re_rd (re_var 1)) (re_rd (re_var 3))))))))
    (rss_one (rs_ret (re_blt (b_tuple T.n_tuple) (rar_cons (re_varR 2) (rar_nil))))))
theorem b_q_size (T : Txt P w K mg base) {f : Addr} (cdv : Value) (A : Around) (outer : List PySem.Env) (s : Shared) (H : Hp) (E : XK) (hr : Room 0 (A.deeper (envOfC "_law_size" (defScope s_q_size) s.heap.objs.size f cdv))) :
    RSs (cxOf (L2N.CX P w) P w K mg base N_q_size "_law_size" (defScope s_q_size) f cdv A outer s H E) (WD E) .S (defBody s_q_size) e_q_size :=
  rss_cons (rs_set 1 sc_q_size.nd (re_int))
    (rss_cons (rs_for (passes_of rfl) rfl (by exact (re_iter (re_var 0))) (by exact (gN 2 sc_q_size.nd))
    (by exact (rss_one (rs_set 1 sc_q_size.nd (re_mul (re_rd (re_var 1)) (re_rd (re_var 2)))))))
    (rss_one (rs_ret (re_var 1))))
theorem b_q_any (T : Txt P w K mg base) (M_q_all : FnM P w K mg base 1 "_law_all" .S d_q_all) (M_q_drawn : FnM P w K mg base 1 "_law_drawn" .S d_q_drawn) (M_q_size : FnM P w K mg base 1 "_law_size" .S d_q_size) {f : Addr} (cdv : Value) (A : Around) (outer : List PySem.Env) (s : Shared) (H : Hp) (E : XK) (hr : Room 1 (A.deeper (envOfC "_law_any" (defScope s_q_any) s.heap.objs.size f cdv))) :
    RSs (cxOf (L2N.CX P w) P w K mg base N_q_any "_law_any" (defScope s_q_any) f cdv A outer s H E) (WD E) .S (defBody s_q_any) e_q_any :=
  rss_cons (rs_setO 3 sc_q_any.nd (re_dic0))
    (rss_cons (rs_for (passes_of rfl) rfl (by exact (re_iter (re_call M_q_all (hr.mono (by decide)) (takes_of rfl rfl rfl rfl) (ra_cons (re_var 1) (ra_nil))))) (by exact (gN 4 sc_q_any.nd))
    (by exact (rss_one (rs_for (passes_of rfl) rfl (by exact (re_iter (re_call M_q_all (hr.mono (by decide)) (takes_of rfl rfl rfl rfl) (ra_cons (re_var 1) (ra_nil))))) (by exact (gN 5 sc_q_any.nd))
    (by exact (rss_cons (rs_setItem 3 hr (re_call M_q_drawn (hr.mono (by decide)) (takes_of rfl rfl rfl rfl) (ra_cons (re_var 0) (ra_cons (re_var 2) (ra_nil)))) (re_rd (re_tup (ra_cons (re_var 4) (ra_cons (re_var 5) (ra_nil))))))
    (rss_one (rs_set 2 sc_q_any.nd (re_div (re_rd (re_var 2)) (re_rd (re_call M_q_size (hr.mono (by decide)) (takes_of rfl rfl rfl rfl) (ra_cons (re_var 0) (ra_nil)))))))))))))
    (rss_one (rs_frz 3 (rs_ret (re_var 3)))))
theorem b_q_shared (T : Txt P w K mg base) {f : Addr} (cdv : Value) (A : Around) (outer : List PySem.Env) (s : Shared) (H : Hp) (E : XK) (hr : Room 0 (A.deeper (envOfC "_law_shared" (defScope s_q_shared) s.heap.objs.size f cdv))) :
    RSs (cxOf (L2N.CX P w) P w K mg base N_q_shared "_law_shared" (defScope s_q_shared) f cdv A outer s H E) (WD E) .S (defBody s_q_shared) e_q_shared :=
  rss_cons (rs_loop (passes_of rfl) (by exact (rt_cp (c_gt) (re_rd (re_var 1)) (re_rd (re_int)))) (by exact (rss_cons (rs_set 2 sc_q_shared.nd (re_mod (re_rd (re_var 0)) (re_rd (re_var 1))))
    (rss_cons (rs_set 0 sc_q_shared.nd (re_var 1))
    (rss_one (rs_set 1 sc_q_shared.nd (re_var 2)))))))
    (rss_one (rs_ret (re_var 0)))
theorem b_q_odd (T : Txt P w K mg base) (M_q_shared : FnM P w K mg base 1 "_law_shared" .S d_q_shared) {f : Addr} (cdv : Value) (A : Around) (outer : List PySem.Env) (s : Shared) (H : Hp) (E : XK) (hr : Room 1 (A.deeper (envOfC "_law_odd" (defScope s_q_odd) s.heap.objs.size f cdv))) :
    RSs (cxOf (L2N.CX P w) P w K mg base N_q_odd "_law_odd" (defScope s_q_odd) f cdv A outer s H E) (WD E) .S (defBody s_q_odd) e_q_odd :=
  rss_cons (rs_setO 4 sc_q_odd.nd (re_lst (ra_nil)))
    (rss_cons (rs_for (passes_of rfl) rfl (by exact (re_iter (re_var 0))) (by exact (gN 5 sc_q_odd.nd))
    (by exact (rss_cons (rs_set 6 sc_q_odd.nd (re_call M_q_shared (hr.mono (by decide)) (takes_of rfl rfl rfl rfl) (ra_cons (re_call M_q_shared (hr.mono (by decide)) (takes_of rfl rfl rfl rfl) (ra_cons (re_var 1) (ra_cons (re_var 2) (ra_nil)))) (ra_cons (re_var 5) (ra_nil)))))
    (rss_cons (rs_append 4 (re_mul (re_rd (re_div (re_rd (re_var 5)) (re_rd (re_var 6)))) (re_rd (re_mod (re_rd (re_var 3)) (re_rd (re_var 6))))))
    (rss_one (rs_set 3 sc_q_odd.nd (re_div (re_rd (re_var 3)) (re_rd (re_var 6)))))))))
    (rss_one (rs_ret (re_blt (b_tuple T.n_tuple) (rar_cons (re_varR 4) (rar_nil))))))
theorem b_q_parts (T : Txt P w K mg base) (M_q_drawn : FnM P w K mg base 1 "_law_drawn" .S d_q_drawn) (M_q_size : FnM P w K mg base 1 "_law_size" .S d_q_size) (M_q_odd : FnM P w K mg base 2 "_law_odd" .S d_q_odd) {f : Addr} (cdv : Value) (A : Around) (outer : List PySem.Env) (s : Shared) (H : Hp) (E : XK) (hr : Room 2 (A.deeper (envOfC "_law_parts" (defScope s_q_parts) s.heap.objs.size f cdv))) :
    RSs (cxOf (L2N.CX P w) P w K mg base N_q_parts "_law_parts" (defScope s_q_parts) f cdv A outer s H E) (WD E) .S (defBody s_q_parts) e_q_parts :=
  rss_cons (rs_setO 3 sc_q_parts.nd (re_lst (ra_nil)))
    (rss_cons (rs_for (passes_of rfl) rfl (by exact (re_iter (re_var 1))) (by exact (gN 4 sc_q_parts.nd))
    (by exact (rss_cons (rs_append 3 (re_call M_q_drawn (hr.mono (by decide)) (takes_of rfl rfl rfl rfl) (ra_cons (re_var 0) (ra_cons (re_var 2) (ra_nil)))))
    (rss_one (rs_set 2 sc_q_parts.nd (re_div (re_rd (re_var 2)) (re_rd (re_call M_q_size (hr.mono (by decide)) (takes_of rfl rfl rfl rfl) (ra_cons (re_var 0) (ra_nil))))))))))
    (rss_cons (rs_setO 5 sc_q_parts.nd (re_dic0))
    (rss_cons (rs_for (passes_of rfl) rfl (by exact (ri_range1 (b := true) T.n_range (rar_cons (re_rd (re_blt (b_len T.n_len) (rar_cons (re_rd (re_var 1)) (rar_nil)))) (rar_nil)))) (by exact (gN 6 sc_q_parts.nd))
    (by exact (rss_one (rs_for (passes_of rfl) rfl (by exact (ri_range2 (b := true) T.n_range (rar_cons (re_rd (re_add (re_rd (re_var 6)) (re_rd (re_int)))) (rar_cons (re_rd (re_blt (b_len T.n_len) (rar_cons (re_rd (re_var 1)) (rar_nil)))) (rar_nil))))) (by exact (gN 7 sc_q_parts.nd))
    (by exact (rss_cons (rs_setItem 5 hr (re_call M_q_odd (hr.mono (by decide)) (takes_of rfl rfl rfl rfl) (ra_cons (re_var 0) (ra_cons (re_ix hr (re_rd (re_var 1)) (re_rd (re_var 6))) (ra_cons (re_ix hr (re_rd (re_var 1)) (re_rd (re_var 7))) (ra_cons (re_var 2) (ra_nil)))))) (re_rd (re_tup (ra_cons (re_var 6) (ra_cons (re_var 7) (ra_nil))))))
    (rss_one (rs_set 2 sc_q_parts.nd (re_div (re_rd (re_var 2)) (re_rd (re_call M_q_size (hr.mono (by decide)) (takes_of rfl rfl rfl rfl) (ra_cons (re_var 0) (ra_nil)))))))))))))
    (rss_one (rs_frz 5 (rs_frz 3 (rs_ret (re_tup (ra_cons (re_var 3) (ra_cons (re_var 5) (ra_nil)))))))))))
theorem b_q_sum (T : Txt P w K mg base) {f : Addr} (cdv : Value) (A : Around) (outer : List PySem.Env) (s : Shared) (H : Hp) (E : XK) (hr : Room 0 (A.deeper (envOfC "_law_sum" (defScope s_q_sum) s.heap.objs.size f cdv))) :
    RSs (cxOf (L2N.CX P w) P w K mg base N_q_sum "_law_sum" (defScope s_q_sum) f cdv A outer s H E) (WD E) .S (defBody s_q_sum) e_q_sum :=
  rss_one (rs_ret (re_blt (b_tuple T.n_tuple) (rar_cons (re_rd (re_lc [("_law_a", 3), ("_law_b", 4), ("_law_number", 5)] rfl sc_q_sum.nd (ri_zip3 T.n_zip (ra_cons (re_var 1) (ra_cons (re_var 2) (ra_cons (re_var 0) (ra_nil))))) (blkOk_by (N := N_q_sum) (sc := defScope s_q_sum) (by decide +kernel)) (fun _ _ _ _ _ _ => by exact (gT 3 rfl (gsc (gN 3 sc_q_sum.nd) (gsc (gN 4 sc_q_sum.nd) (gsc (gN 5 sc_q_sum.nd) (gs0)))))) (fun _ _ _ _ _ => by exact (rts_nil)) (fun _ _ _ _ _ => by exact (re_mod (re_rd (re_add (re_rd (re_var 3)) (re_rd (re_var 4)))) (re_rd (re_var 5)))))) (rar_nil))))
theorem b_q_times (T : Txt P w K mg base) {f : Addr} (cdv : Value) (A : Around) (outer : List PySem.Env) (s : Shared) (H : Hp) (E : XK) (hr : Room 0 (A.deeper (envOfC "_law_times" (defScope s_q_times) s.heap.objs.size f cdv))) :
    RSs (cxOf (L2N.CX P w) P w K mg base N_q_times "_law_times" (defScope s_q_times) f cdv A outer s H E) (WD E) .S (defBody s_q_times) e_q_times :=
  rss_one (rs_ret (re_blt (b_tuple T.n_tuple) (rar_cons (re_rd (re_lc [("_law_a", 3), ("_law_number", 4)] rfl sc_q_times.nd (ri_zip2 T.n_zip (ra_cons (re_var 2) (ra_cons (re_var 0) (ra_nil)))) (blkOk_by (N := N_q_times) (sc := defScope s_q_times) (by decide +kernel)) (fun _ _ _ _ _ _ => by exact (gT 2 rfl (gsc (gN 3 sc_q_times.nd) (gsc (gN 4 sc_q_times.nd) (gs0))))) (fun _ _ _ _ _ => by exact (rts_nil)) (fun _ _ _ _ _ => by exact (re_mod (re_rd (re_mul (re_rd (re_var 1)) (re_rd (re_var 3)))) (re_rd (re_var 4)))))) (rar_nil))))
theorem b_q_carry (T : Txt P w K mg base) (M_q_sum : FnM P w K mg base 1 "_law_sum" .S d_q_sum) (M_q_times : FnM P w K mg base 1 "_law_times" .S d_q_times) {f : Addr} (cdv : Value) (A : Around) (outer : List PySem.Env) (s : Shared) (H : Hp) (E : XK) (hr : Room 1 (A.deeper (envOfC "_law_carry" (defScope s_q_carry) s.heap.objs.size f cdv))) :
    RSs (cxOf (L2N.CX P w) P w K mg base N_q_carry "_law_carry" (defScope s_q_carry) f cdv A outer s H E) (WD E) .S (defBody s_q_carry) e_q_carry :=
  rss_cons (rs_set 5 sc_q_carry.nd (re_blt (b_tuple T.n_tuple) (rar_cons (re_rd (re_lc [("_law_number", 9)] rfl sc_q_carry.nd (re_iter (re_var 0)) (blkOk_by (N := N_q_carry) (sc := defScope s_q_carry) (by decide +kernel)) (fun _ _ _ _ _ _ => by exact (gN 9 sc_q_carry.nd)) (fun _ _ _ _ _ => by exact (rts_nil)) (fun _ _ _ _ _ => by exact (re_int)))) (rar_nil))))
    (rss_cons (rs_for (passes_of rfl) rfl (by exact (ri_range1 (b := true) T.n_range (rar_cons (re_rd (re_blt (b_len T.n_len) (rar_cons (re_rd (re_var 1)) (rar_nil)))) (rar_nil)))) (by exact (gN 6 sc_q_carry.nd))
    (by exact (rss_one (rs_if (rt_cp (c_ge) (re_rd (re_add (re_rd (re_ix hr (re_rd (re_var 3)) (re_rd (re_var 6)))) (re_rd (re_ix hr (re_rd (re_var 4)) (re_rd (re_var 6)))))) (re_rd (re_ix hr (re_rd (re_var 1)) (re_rd (re_var 6)))))
    (rss_one (rs_set 5 sc_q_carry.nd (re_call M_q_sum (hr.mono (by decide)) (takes_of rfl rfl rfl rfl) (ra_cons (re_var 0) (ra_cons (re_var 5) (ra_cons (re_ix hr (re_rd (re_ix hr (re_rd (re_var 2)) (re_rd (re_int)))) (re_rd (re_var 6))) (ra_nil)))))))
    (rss_nil)))))
    (rss_cons (rs_for (passes_of rfl) rfl (by exact (re_iter (re_ix hr (re_rd (re_var 2)) (re_rd (re_int))))) (by exact (gT 2 rfl (gsc (gN 7 sc_q_carry.nd) (gsc (gN 8 sc_q_carry.nd) (gs0)))))
    (by exact (rss_one (rs_set 5 sc_q_carry.nd (re_call M_q_sum (hr.mono (by decide)) (takes_of rfl rfl rfl rfl) (ra_cons (re_var 0) (ra_cons (re_var 5) (ra_cons (re_call M_q_times (hr.mono (by decide)) (takes_of rfl rfl rfl rfl) (ra_cons (re_var 0) (ra_cons (re_mul (re_rd (re_ix hr (re_rd (re_var 3)) (re_rd (re_var 7)))) (re_rd (re_ix hr (re_rd (re_var 4)) (re_rd (re_var 8))))) (ra_cons (re_ix hr (re_rd (re_ix hr (re_rd (re_var 2)) (re_rd (re_int)))) (re_rd (re_tup (ra_cons (re_var 7) (ra_cons (re_var 8) (ra_nil)))))) (ra_nil))))) (ra_nil)))))))))
    (rss_one (rs_ret (re_var 5)))))
theorem b_q_own (T : Txt P w K mg base) (M_q_times : FnM P w K mg base 1 "_law_times" .S d_q_times) (M_q_sum : FnM P w K mg base 1 "_law_sum" .S d_q_sum) {f : Addr} (cdv : Value) (A : Around) (outer : List PySem.Env) (s : Shared) (H : Hp) (E : XK) (hr : Room 1 (A.deeper (envOfC "_law_own" (defScope s_q_own) s.heap.objs.size f cdv))) :
    RSs (cxOf (L2N.CX P w) P w K mg base N_q_own "_law_own" (defScope s_q_own) f cdv A outer s H E) (WD E) .S (defBody s_q_own) e_q_own :=
  rss_cons (rs_set 5 sc_q_own.nd (re_call M_q_times (hr.mono (by decide)) (takes_of rfl rfl rfl rfl) (ra_cons (re_var 0) (ra_cons (re_neg (re_rd (re_int))) (ra_cons (re_ix hr (re_rd (re_var 2)) (re_rd (re_call M_q_sum (hr.mono (by decide)) (takes_of rfl rfl rfl rfl) (ra_cons (re_var 1) (ra_cons (re_var 3) (ra_cons (re_var 4) (ra_nil))))))) (ra_nil))))))
    (rss_one (rs_ret (re_call M_q_sum (hr.mono (by decide)) (takes_of rfl rfl rfl rfl) (ra_cons (re_var 0) (ra_cons (re_call M_q_sum (hr.mono (by decide)) (takes_of rfl rfl rfl rfl) (ra_cons (re_var 0) (ra_cons (re_ix hr (re_rd (re_var 2)) (re_rd (re_var 3))) (ra_cons (re_ix hr (re_rd (re_var 2)) (re_rd (re_var 4))) (ra_nil))))) (ra_cons (re_var 5) (ra_nil)))))))
theorem b_q_carries (T : Txt P w K mg base) (M_q_all : FnM P w K mg base 1 "_law_all" .S d_q_all) (M_q_carry : FnM P w K mg base 2 "_law_carry" .S d_q_carry) (M_q_sum : FnM P w K mg base 1 "_law_sum" .S d_q_sum) (M_q_own : FnM P w K mg base 2 "_law_own" .S d_q_own) {f : Addr} (cdv : Value) (A : Around) (outer : List PySem.Env) (s : Shared) (H : Hp) (E : XK) (hr : Room 2 (A.deeper (envOfC "_law_carries" (defScope s_q_carries) s.heap.objs.size f cdv))) :
    RSs (cxOf (L2N.CX P w) P w K mg base N_q_carries "_law_carries" (defScope s_q_carries) f cdv A outer s H E) (WD E) .S (defBody s_q_carries) e_q_carries :=
  rss_cons (rs_setO 4 sc_q_carries.nd (re_dic0))
    (rss_cons (rs_for (passes_of rfl) rfl (by exact (re_iter (re_call M_q_all (hr.mono (by decide)) (takes_of rfl rfl rfl rfl) (ra_cons (re_var 1) (ra_nil))))) (by exact (gN 5 sc_q_carries.nd))
    (by exact (rss_one (rs_for (passes_of rfl) rfl (by exact (re_iter (re_call M_q_all (hr.mono (by decide)) (takes_of rfl rfl rfl rfl) (ra_cons (re_var 1) (ra_nil))))) (by exact (gN 6 sc_q_carries.nd))
    (by exact (rss_cons (rs_set 7 sc_q_carries.nd (re_call M_q_carry (hr.mono (by decide)) (takes_of rfl rfl rfl rfl) (ra_cons (re_var 0) (ra_cons (re_var 1) (ra_cons (re_var 2) (ra_cons (re_var 5) (ra_cons (re_var 6) (ra_nil))))))))
    (rss_one (rs_setItem 4 hr (re_call M_q_sum (hr.mono (by decide)) (takes_of rfl rfl rfl rfl) (ra_cons (re_var 0) (ra_cons (re_var 7) (ra_cons (re_call M_q_own (hr.mono (by decide)) (takes_of rfl rfl rfl rfl) (ra_cons (re_var 0) (ra_cons (re_var 1) (ra_cons (re_var 3) (ra_cons (re_var 5) (ra_cons (re_var 6) (ra_nil))))))) (ra_nil))))) (re_rd (re_tup (ra_cons (re_var 5) (ra_cons (re_var 6) (ra_nil)))))))))))))
    (rss_one (rs_frz 4 (rs_ret (re_var 4)))))
theorem b_q_labels (T : Txt P w K mg base) (M_q_all : FnM P w K mg base 1 "_law_all" .S d_q_all) (M_q_drawn : FnM P w K mg base 1 "_law_drawn" .S d_q_drawn) (M_q_size : FnM P w K mg base 1 "_law_size" .S d_q_size) {f : Addr} (cdv : Value) (A : Around) (outer : List PySem.Env) (s : Shared) (H : Hp) (E : XK) (hr : Room 1 (A.deeper (envOfC "_law_labels" (defScope s_q_labels) s.heap.objs.size f cdv))) :
    RSs (cxOf (L2N.CX P w) P w K mg base N_q_labels "_law_labels" (defScope s_q_labels) f cdv A outer s H E) (WD E) (.O .flat) (defBody s_q_labels) e_q_labels :=
  rss_cons (rs_setO 3 sc_q_labels.nd (re_dic0))
    (rss_cons (rs_for (passes_of rfl) rfl (by exact (re_iter (re_call M_q_all (hr.mono (by decide)) (takes_of rfl rfl rfl rfl) (ra_cons (re_var 1) (ra_nil))))) (by exact (gN 4 sc_q_labels.nd))
    (by exact (rss_cons (rs_setItem 3 hr (re_call M_q_drawn (hr.mono (by decide)) (takes_of rfl rfl rfl rfl) (ra_cons (re_var 0) (ra_cons (re_var 2) (ra_nil)))) (re_rd (re_var 4)))
    (rss_one (rs_set 2 sc_q_labels.nd (re_div (re_rd (re_var 2)) (re_rd (re_call M_q_size (hr.mono (by decide)) (takes_of rfl rfl rfl rfl) (ra_cons (re_var 0) (ra_nil))))))))))
    (rss_one (rs_retO 3)))
theorem b_Rounds_members (T : Txt P w K mg base) {f : Addr} (cdv : Value) (A : Around) (outer : List PySem.Env) (s : Shared) (H : Hp) (E : XK) (hr : Room 0 (A.deeper (envOfC "Rounds.members" (defScope s_Rounds_members) s.heap.objs.size f cdv))) :
    RSs (cxOf (L2N.CX P w) P w K mg base N_Rounds_members "Rounds.members" (defScope s_Rounds_members) f cdv A outer s H E) (WD E) .S (defBody s_Rounds_members) e_Rounds_members :=
  rss_cons (rs_set 1 sc_Rounds_members.nd (re_share (re_lst (ra_cons (re_tup (ra_nil)) (ra_nil)))))
    (rss_cons (rs_for (passes_of rfl) rfl (by exact (re_iter (re_fld T.f_rounds (re_var 0)))) (by exact (gN 2 sc_Rounds_members.nd))
    (by exact (rss_cons (rs_setO 3 sc_Rounds_members.nd (re_lst (ra_nil)))
    (rss_cons (rs_for (passes_of rfl) rfl (by exact (re_iter (re_var 1))) (by exact (gN 4 sc_Rounds_members.nd))
    (by exact (rss_one (rs_extend 3 (re_share (re_lc [("here", 5)] rfl sc_Rounds_members.nd (ri_range1 (b := true) T.n_range (rar_cons (re_rd (re_var 2)) (rar_nil))) (blkOk_by (N := N_Rounds_members) (sc := defScope s_Rounds_members) (by decide +kernel)) (fun _ _ _ _ _ _ => by exact (gN 5 sc_Rounds_members.nd)) (fun _ _ _ _ _ => by exact (rts_nil)) (fun _ _ _ _ _ => by exact (re_add (re_rd (re_var 4)) (re_rd (re_tup (ra_cons (re_var 5) (ra_nil))))))))))))
    (rss_one (rs_frz 3 (rs_set 1 sc_Rounds_members.nd (re_var 3))))))))
    (rss_one (rs_ret (re_var 1))))
theorem b_Group_size (T : Txt P w K mg base) (MT_members : ∀ c g, mt_members c = some g → MtM P w K mg base 1 "members" c .S g) {f : Addr} (cdv : Value) (A : Around) (outer : List PySem.Env) (s : Shared) (H : Hp) (E : XK) (hr : Room 1 (A.deeper (envOfC "Group.size" (defScope s_Group_size) s.heap.objs.size f cdv))) :
    RSs (cxOf (L2N.CX P w) P w K mg base N_Group_size "Group.size" (defScope s_Group_size) f cdv A outer s H E) (WD E) .S (defBody s_Group_size) e_Group_size :=
  rss_one (rs_ret (re_blt (b_len T.n_len) (rar_cons (re_rd (re_meth0 MT_members (hr.mono (by decide)) (takes_of rfl rfl rfl rfl) (re_var 0))) (rar_nil))))
theorem b_Rounds_is_even (T : Txt P w K mg base) {f : Addr} (cdv : Value) (A : Around) (outer : List PySem.Env) (s : Shared) (H : Hp) (E : XK) (hr : Room 0 (A.deeper (envOfC "Rounds.is_even" (defScope s_Rounds_is_even) s.heap.objs.size f cdv))) :
    RSs (cxOf (L2N.CX P w) P w K mg base N_Rounds_is_even "Rounds.is_even" (defScope s_Rounds_is_even) f cdv A outer s H E) (WD E) .S (defBody s_Rounds_is_even) e_Rounds_is_even :=
  rss_one (rs_ret (re_bl))
theorem b_look_at_groups (T : Txt P w K mg base) (MT_size : ∀ c g, mt_size c = some g → MtM P w K mg base 2 "size" c .S g) (MT_is_even : ∀ c g, mt_is_even c = some g → MtM P w K mg base 1 "is_even" c .S g) {f : Addr} (cdv : Value) (A : Around) (outer : List PySem.Env) (s : Shared) (H : Hp) (E : XK) (hr : Room 2 (A.deeper (envOfC "look_at_groups" (defScope s_look_at_groups) s.heap.objs.size f cdv))) :
    RSs (cxOf (L2N.CX P w) P w K mg base N_look_at_groups "look_at_groups" (defScope s_look_at_groups) f cdv A outer s H E) (WD E) .S (defBody s_look_at_groups) e_look_at_groups :=
  rss_cons (rs_if (rt_pw (rw_or (rt_cp (c_gt) (re_rd (re_meth0 MT_size (hr.mono (by decide)) (takes_of rfl rfl rfl rfl) (re_var 0))) (re_rd (re_gI T.g_MOST_LOWER))) (rw_or1 (rt_not (rt_val (re_meth0 MT_is_even (hr.mono (by decide)) (takes_of rfl rfl rfl rfl) (re_var 0)))))))
    (rss_one (rs_raise0 T.e_NoLower rfl (takes_of rfl rfl rfl rfl)))
    (rss_nil))
    (rss_one (rs_if (rt_pw (rw_or (rt_not (rt_val (re_blt (b_is T.isM T.n_isinstance) (rar_cons (re_rd (re_var 1)) (rar_cons (re_rd (re_cls (c := 0) T.c_Rounds)) (rar_nil)))))) (rw_or1 (rt_cp (c_gt) (re_rd (re_meth0 MT_size (hr.mono (by decide)) (takes_of rfl rfl rfl rfl) (re_var 1))) (re_rd (re_gI T.g_MOST_UPPER))))))
    (rss_one (rs_raise0 T.e_NoUpper rfl (takes_of rfl rfl rfl rfl)))
    (rss_nil)))
theorem b_is_whole (T : Txt P w K mg base) {f : Addr} (cdv : Value) (A : Around) (outer : List PySem.Env) (s : Shared) (H : Hp) (E : XK) (hr : Room 0 (A.deeper (envOfC "is_whole" (defScope s_is_whole) s.heap.objs.size f cdv))) :
    RSs (cxOf (L2N.CX P w) P w K mg base N_is_whole "is_whole" (defScope s_is_whole) f cdv A outer s H E) (WD E) .S (defBody s_is_whole) e_is_whole :=
  rss_one (rs_ret (re_and (re_blt (b_is T.isM T.n_isinstance) (rar_cons (re_rd (re_var 0)) (rar_cons (re_rd (re_ty T.n_int boot_ty_int)) (rar_nil)))) (re_one (re_not (re_blt (b_is T.isM T.n_isinstance) (rar_cons (re_rd (re_var 0)) (rar_cons (re_rd (re_ty T.n_bool boot_ty_bool)) (rar_nil))))))))
theorem b_Rounds_has (T : Txt P w K mg base) (M_is_whole : FnM P w K mg base 1 "is_whole" .S d_is_whole) {f : Addr} (cdv : Value) (A : Around) (outer : List PySem.Env) (s : Shared) (H : Hp) (E : XK) (hr : Room 1 (A.deeper (envOfC "Rounds.has" (defScope s_Rounds_has) s.heap.objs.size f cdv))) :
    RSs (cxOf (L2N.CX P w) P w K mg base N_Rounds_has "Rounds.has" (defScope s_Rounds_has) f cdv A outer s H E) (WD E) .S (defBody s_Rounds_has) e_Rounds_has :=
  rss_cons (rs_if (rt_pw (rw_or (rt_not (rt_val (re_blt (b_is T.isM T.n_isinstance) (rar_cons (re_rd (re_var 1)) (rar_cons (re_rd (re_ty T.n_tuple boot_ty_tuple)) (rar_nil)))))) (rw_or1 (rt_cp (c_ne hr) (re_rd (re_blt (b_len T.n_len) (rar_cons (re_rd (re_var 1)) (rar_nil)))) (re_rd (re_blt (b_len T.n_len) (rar_cons (re_rd (re_fld T.f_rounds (re_var 0))) (rar_nil))))))))
    (rss_one (rs_ret (re_bl)))
    (rss_nil))
    (rss_cons (rs_for (passes_of rfl) rfl (by exact (ri_zip2 T.n_zip (ra_cons (re_var 1) (ra_cons (re_fld T.f_rounds (re_var 0)) (ra_nil))))) (by exact (gT 2 rfl (gsc (gN 2 sc_Rounds_has.nd) (gsc (gN 3 sc_Rounds_has.nd) (gs0)))))
    (by exact (rss_one (rs_if (rt_pw (rw_or (rt_not (rt_val (re_call M_is_whole (hr.mono (by decide)) (takes_of rfl rfl rfl rfl) (ra_cons (re_var 2) (ra_nil))))) (rw_or (rt_cp (c_lt) (re_rd (re_var 2)) (re_rd (re_int))) (rw_or1 (rt_cp (c_ge) (re_rd (re_var 2)) (re_rd (re_var 3)))))))
    (rss_one (rs_ret (re_bl)))
    (rss_nil)))))
    (rss_one (rs_ret (re_bl))))
theorem b_Table_init (T : Txt P w K mg base) (M_look_at_groups : FnM P w K mg base 3 "look_at_groups" .S d_look_at_groups) (MT_members : ∀ c g, mt_members c = some g → MtM P w K mg base 1 "members" c .S g) (MT_has : ∀ c g, mt_has c = some g → MtM P w K mg base 2 "has" c .S g) {f : Addr} (cdv : Value) (A : Around) (outer : List PySem.Env) (s : Shared) (H : Hp) (E : XK) (x : Addr) (hr : Room 3 (A.deeper (envOfC "Table.__init__" (defScope s_Table_init) s.heap.objs.size f cdv))) :
    RSs (cxOf (L2N.CX P w) P w K mg base N_Table_init "Table.__init__" (defScope s_Table_init) f cdv A outer s H E) (WI x E) .S (defBody s_Table_init) e_Table_init :=
  rss_cons (rs_expr (re_call M_look_at_groups (hr.mono (by decide)) (takes_of rfl rfl rfl rfl) (ra_cons (re_var 1) (ra_cons (re_var 2) (ra_nil)))))
    (rss_cons (rs_fldS 0 2 T.cl_Table_lower (re_var 1))
    (rss_cons (rs_fldS 0 2 T.cl_Table_upper (re_var 2))
    (rss_cons (rs_fldO 0 2 T.cl_Table_kept (re_dic0))
    (rss_cons (rs_set 4 sc_Table_init.nd (re_meth0 MT_members (hr.mono (by decide)) (takes_of rfl rfl rfl rfl) (re_var 2)))
    (rss_one (rs_for (passes_of rfl) rfl (by exact (re_iter (re_var 4))) (by exact (gN 5 sc_Table_init.nd))
    (by exact (rss_one (rs_for (passes_of rfl) rfl (by exact (re_iter (re_var 4))) (by exact (gN 6 sc_Table_init.nd))
    (by exact (rss_cons (rs_if (rt_pw (rw_or (rt_cp (c_notIn hr) (re_rd (re_tup (ra_cons (re_var 5) (ra_cons (re_var 6) (ra_nil))))) (re_rd (re_var 3))) (rw_or1 (rt_not (rt_val (re_meth MT_has (hr.mono (by decide)) (takes_of rfl rfl rfl rfl) (re_var 1) (ra_cons (re_ix hr (re_rd (re_var 3)) (re_rd (re_tup (ra_cons (re_var 5) (ra_cons (re_var 6) (ra_nil)))))) (ra_nil))))))))
    (rss_one (rs_raise T.e_NoCarry rfl (takes_of rfl rfl rfl rfl) (hr.mono (by decide)) (ra_cons (re_var 5) (ra_cons (re_var 6) (ra_nil)))))
    (rss_nil))
    (rss_one (rs_fldItem 0 2 2 T.cl_Table_kept hr (re_ix hr (re_rd (re_var 3)) (re_rd (re_tup (ra_cons (re_var 5) (ra_cons (re_var 6) (ra_nil)))))) (re_rd (re_tup (ra_cons (re_var 5) (ra_cons (re_var 6) (ra_nil))))))))))))))))))
theorem b_are_rounds (T : Txt P w K mg base) (M_is_whole : FnM P w K mg base 1 "is_whole" .S d_is_whole) {f : Addr} (cdv : Value) (A : Around) (outer : List PySem.Env) (s : Shared) (H : Hp) (E : XK) (hr : Room 1 (A.deeper (envOfC "are_rounds" (defScope s_are_rounds) s.heap.objs.size f cdv))) :
    RSs (cxOf (L2N.CX P w) P w K mg base N_are_rounds "are_rounds" (defScope s_are_rounds) f cdv A outer s H E) (WD E) .S (defBody s_are_rounds) e_are_rounds :=
  rss_cons (rs_if (rt_pw (rw_or (rt_not (rt_val (re_blt (b_is T.isM T.n_isinstance) (rar_cons (re_rd (re_var 0)) (rar_cons (re_rd (re_tup (ra_cons (re_ty T.n_list boot_ty_list) (ra_cons (re_ty T.n_tuple boot_ty_tuple) (ra_nil))))) (rar_nil)))))) (rw_or1 (rt_cp (c_gt) (re_rd (re_blt (b_len T.n_len) (rar_cons (re_rd (re_var 0)) (rar_nil)))) (re_rd (re_gI T.g_MOST_ROUNDS))))))
    (rss_one (rs_ret (re_bl)))
    (rss_nil))
    (rss_cons (rs_set 1 sc_are_rounds.nd (re_int))
    (rss_cons (rs_for (passes_of rfl) rfl (by exact (re_iter (re_var 0))) (by exact (gN 2 sc_are_rounds.nd))
    (by exact (rss_cons (rs_if (rt_pw (rw_or (rt_not (rt_val (re_call M_is_whole (hr.mono (by decide)) (takes_of rfl rfl rfl rfl) (ra_cons (re_var 2) (ra_nil))))) (rw_or (rt_cp (c_lt) (re_rd (re_var 2)) (re_rd (re_int))) (rw_or1 (rt_cp (c_gt) (re_rd (re_var 2)) (re_rd (re_gI T.g_MOST_ELEMENTS)))))))
    (rss_one (rs_ret (re_bl)))
    (rss_nil))
    (rss_one (rs_set 1 sc_are_rounds.nd (re_mul (re_rd (re_var 1)) (re_rd (re_var 2))))))))
    (rss_one (rs_ret (re_cp (c_le) (re_rd (re_var 1)) (re_rd (re_gI T.g_MOST_ELEMENTS)))))))
theorem b_Rounds_init (T : Txt P w K mg base) (M_are_rounds : FnM P w K mg base 2 "are_rounds" .S d_are_rounds) {f : Addr} (cdv : Value) (A : Around) (outer : List PySem.Env) (s : Shared) (H : Hp) (E : XK) (x : Addr) (hr : Room 2 (A.deeper (envOfC "Rounds.__init__" (defScope s_Rounds_init) s.heap.objs.size f cdv))) :
    RSs (cxOf (L2N.CX P w) P w K mg base N_Rounds_init "Rounds.__init__" (defScope s_Rounds_init) f cdv A outer s H E) (WI x E) .S (defBody s_Rounds_init) e_Rounds_init :=
  rss_cons (rs_if (rt_not (rt_val (re_call M_are_rounds (hr.mono (by decide)) (takes_of rfl rfl rfl rfl) (ra_cons (re_var 1) (ra_nil)))))
    (rss_one (rs_raise0 T.e_NoRounds rfl (takes_of rfl rfl rfl rfl)))
    (rss_nil))
    (rss_one (rs_fldS 0 0 T.cl_Rounds_rounds (re_blt (b_tuple T.n_tuple) (rar_cons (re_rd (re_var 1)) (rar_nil)))))
theorem b_q_odd_thing (T : Txt P w K mg base) {f : Addr} (cdv : Value) (A : Around) (outer : List PySem.Env) (s : Shared) (H : Hp) (E : XK) (hr : Room 0 (A.deeper (envOfC "_law_odd_thing" (defScope s_q_odd_thing) s.heap.objs.size f cdv))) :
    RSs (cxOf (L2N.CX P w) P w K mg base N_q_odd_thing "_law_odd_thing" (defScope s_q_odd_thing) f cdv A outer s H E) (WD E) .S (defBody s_q_odd_thing) e_q_odd_thing :=
  rss_cons (rs_set 2 sc_q_odd_thing.nd (re_share (re_lst (ra_cons (re_non) (ra_cons (re_share (re_blt (b_list T.n_list) (rar_cons (re_rd (re_var 0)) (rar_nil)))) (ra_cons (re_var 0) (ra_cons (re_add (re_rd (re_var 0)) (re_rd (re_tup (ra_cons (re_int) (ra_nil))))) (ra_cons (re_str) (ra_cons (re_blt (b_tuple T.n_tuple) (rar_cons (re_rd (re_lc [("_law_number", 3)] rfl sc_q_odd_thing.nd (re_iter (re_slice (re_rd (re_var 0)) (rp_some (re_rd (re_int))) (rp_none))) (blkOk_by (N := N_q_odd_thing) (sc := defScope s_q_odd_thing) (by decide +kernel)) (fun _ _ _ _ _ _ => by exact (gN 3 sc_q_odd_thing.nd)) (fun _ _ _ _ _ => by exact (rts_nil)) (fun _ _ _ _ _ => by exact (re_int)))) (rar_nil))) (ra_cons (re_neg (re_rd (re_int))) (ra_cons (re_share (re_dic0)) (ra_nil))))))))))))
    (rss_cons (rs_if (rt_cp (c_gt) (re_rd (re_blt (b_len T.n_len) (rar_cons (re_rd (re_var 0)) (rar_nil)))) (re_rd (re_int)))
    (rss_cons (rs_set 2 sc_q_odd_thing.nd (re_add (re_rd (re_var 2)) (re_rd (re_lst (ra_cons (re_add (re_rd (re_tup (ra_cons (re_bl) (ra_nil)))) (re_rd (re_blt (b_tuple T.n_tuple) (rar_cons (re_rd (re_lc [("_law_number", 3)] rfl sc_q_odd_thing.nd (re_iter (re_slice (re_rd (re_var 0)) (rp_some (re_rd (re_int))) (rp_none))) (blkOk_by (N := N_q_odd_thing) (sc := defScope s_q_odd_thing) (by decide +kernel)) (fun _ _ _ _ _ _ => by exact (gN 3 sc_q_odd_thing.nd)) (fun _ _ _ _ _ => by exact (rts_nil)) (fun _ _ _ _ _ => by exact (re_int)))) (rar_nil))))) (ra_cons (re_add (re_rd (re_tup (ra_cons (re_neg (re_rd (re_int))) (ra_nil)))) (re_rd (re_slice (re_rd (re_var 0)) (rp_some (re_rd (re_int))) (rp_none)))) (ra_cons (re_add (re_rd (re_tup (ra_cons (re_non) (ra_nil)))) (re_rd (re_slice (re_rd (re_var 0)) (rp_some (re_rd (re_int))) (rp_none)))) (ra_nil))))))))
    (rss_one (rs_ret (re_ix hr (re_rd (re_var 2)) (re_rd (re_mod (re_rd (re_var 1)) (re_rd (re_int))))))))
    (rss_nil))
    (rss_one (rs_ret (re_ix hr (re_rd (re_lst (ra_cons (re_non) (ra_cons (re_share (re_lst (ra_nil))) (ra_cons (re_tup (ra_cons (re_int) (ra_nil))) (ra_cons (re_str) (ra_cons (re_int) (ra_cons (re_share (re_dic0)) (ra_nil))))))))) (re_rd (re_mod (re_rd (re_var 1)) (re_rd (re_int))))))))
theorem b_labels_of (T : Txt P w K mg base) (MT_members : ∀ c g, mt_members c = some g → MtM P w K mg base 1 "members" c .S g) (MT_has : ∀ c g, mt_has c = some g → MtM P w K mg base 2 "has" c .S g) {f : Addr} (cdv : Value) (A : Around) (outer : List PySem.Env) (s : Shared) (H : Hp) (E : XK) (hr : Room 2 (A.deeper (envOfC "labels_of" (defScope s_labels_of) s.heap.objs.size f cdv))) :
    RSs (cxOf (L2N.CX P w) P w K mg base N_labels_of "labels_of" (defScope s_labels_of) f cdv A outer s H E) (WD E) .S (defBody s_labels_of) e_labels_of :=
  rss_cons (rs_setO 3 sc_labels_of.nd (re_dic0))
    (rss_cons (rs_for (passes_of rfl) rfl (by exact (re_iter (re_meth0 MT_members (hr.mono (by decide)) (takes_of rfl rfl rfl rfl) (re_var 1)))) (by exact (gN 4 sc_labels_of.nd))
    (by exact (rss_cons (rs_if (rt_pw (rw_or (rt_cp (c_notInM hr) (re_rd (re_var 4)) (re_rd (re_var 2))) (rw_or1 (rt_not (rt_val (re_meth MT_has (hr.mono (by decide)) (takes_of rfl rfl rfl rfl) (re_var 0) (ra_cons (re_ixM hr (re_rd (re_var 2)) (re_rd (re_var 4))) (ra_nil))))))))
    (rss_one (rs_raise T.e_NoRelabeling rfl (takes_of rfl rfl rfl rfl) (hr.mono (by decide)) (ra_cons (re_var 4) (ra_nil))))
    (rss_nil))
    (rss_one (rs_setItem 3 hr (re_ixM hr (re_rd (re_var 2)) (re_rd (re_var 4))) (re_rd (re_var 4)))))))
    (rss_one (rs_frz 3 (rs_ret (re_var 3)))))
theorem b_Table_carries (T : Txt P w K mg base) {f : Addr} (cdv : Value) (A : Around) (outer : List PySem.Env) (s : Shared) (H : Hp) (E : XK) (hr : Room 0 (A.deeper (envOfC "Table.carries" (defScope s_Table_carries) s.heap.objs.size f cdv))) :
    RSs (cxOf (L2N.CX P w) P w K mg base N_Table_carries "Table.carries" (defScope s_Table_carries) f cdv A outer s H E) (WD E) .S (defBody s_Table_carries) e_Table_carries :=
  rss_one (rs_ret (re_share (re_blt (b_dict hr T.n_dict) (rar_cons (re_rd (re_fld T.f_kept (re_var 0))) (rar_nil)))))
theorem b_Group_look_at (T : Txt P w K mg base) (MT_has : ∀ c g, mt_has c = some g → MtM P w K mg base 2 "has" c .S g) {f : Addr} (cdv : Value) (A : Around) (outer : List PySem.Env) (s : Shared) (H : Hp) (E : XK) (hr : Room 2 (A.deeper (envOfC "Group.look_at" (defScope s_Group_look_at) s.heap.objs.size f cdv))) :
    RSs (cxOf (L2N.CX P w) P w K mg base N_Group_look_at "Group.look_at" (defScope s_Group_look_at) f cdv A outer s H E) (WD E) .S (defBody s_Group_look_at) e_Group_look_at :=
  rss_one (rs_if (rt_not (rt_val (re_meth MT_has (hr.mono (by decide)) (takes_of rfl rfl rfl rfl) (re_var 0) (ra_cons (re_var 1) (ra_nil)))))
    (rss_one (rs_raise0 T.e_NoElement rfl (takes_of rfl rfl rfl rfl)))
    (rss_nil))
theorem b_Rounds_put (T : Txt P w K mg base) {f : Addr} (cdv : Value) (A : Around) (outer : List PySem.Env) (s : Shared) (H : Hp) (E : XK) (hr : Room 0 (A.deeper (envOfC "Rounds.put" (defScope s_Rounds_put) s.heap.objs.size f cdv))) :
    RSs (cxOf (L2N.CX P w) P w K mg base N_Rounds_put "Rounds.put" (defScope s_Rounds_put) f cdv A outer s H E) (WD E) .S (defBody s_Rounds_put) e_Rounds_put :=
  rss_one (rs_ret (re_blt (b_tuple T.n_tuple) (rar_cons (re_rd (re_lc [("a", 3), ("b", 4), ("number", 5)] rfl sc_Rounds_put.nd (ri_zip3 T.n_zip (ra_cons (re_var 1) (ra_cons (re_var 2) (ra_cons (re_fld T.f_rounds (re_var 0)) (ra_nil))))) (blkOk_by (N := N_Rounds_put) (sc := defScope s_Rounds_put) (by decide +kernel)) (fun _ _ _ _ _ _ => by exact (gT 3 rfl (gsc (gN 3 sc_Rounds_put.nd) (gsc (gN 4 sc_Rounds_put.nd) (gsc (gN 5 sc_Rounds_put.nd) (gs0)))))) (fun _ _ _ _ _ => by exact (rts_nil)) (fun _ _ _ _ _ => by exact (re_mod (re_rd (re_add (re_rd (re_var 3)) (re_rd (re_var 4)))) (re_rd (re_var 5)))))) (rar_nil))))
theorem b_Group_added (T : Txt P w K mg base) (MT_look_at : ∀ c g, mt_look_at c = some g → MtM P w K mg base 3 "look_at" c .S g) (MT_put : ∀ c g, mt_put c = some g → MtM P w K mg base 1 "put" c .S g) {f : Addr} (cdv : Value) (A : Around) (outer : List PySem.Env) (s : Shared) (H : Hp) (E : XK) (hr : Room 3 (A.deeper (envOfC "Group.added" (defScope s_Group_added) s.heap.objs.size f cdv))) :
    RSs (cxOf (L2N.CX P w) P w K mg base N_Group_added "Group.added" (defScope s_Group_added) f cdv A outer s H E) (WD E) .S (defBody s_Group_added) e_Group_added :=
  rss_cons (rs_expr (re_meth MT_look_at (hr.mono (by decide)) (takes_of rfl rfl rfl rfl) (re_var 0) (ra_cons (re_var 1) (ra_nil))))
    (rss_cons (rs_expr (re_meth MT_look_at (hr.mono (by decide)) (takes_of rfl rfl rfl rfl) (re_var 0) (ra_cons (re_var 2) (ra_nil))))
    (rss_one (rs_ret (re_meth MT_put (hr.mono (by decide)) (takes_of rfl rfl rfl rfl) (re_var 0) (ra_cons (re_var 1) (ra_cons (re_var 2) (ra_nil)))))))
theorem b_Rounds_backed (T : Txt P w K mg base) {f : Addr} (cdv : Value) (A : Around) (outer : List PySem.Env) (s : Shared) (H : Hp) (E : XK) (hr : Room 0 (A.deeper (envOfC "Rounds.backed" (defScope s_Rounds_backed) s.heap.objs.size f cdv))) :
    RSs (cxOf (L2N.CX P w) P w K mg base N_Rounds_backed "Rounds.backed" (defScope s_Rounds_backed) f cdv A outer s H E) (WD E) .S (defBody s_Rounds_backed) e_Rounds_backed :=
  rss_one (rs_ret (re_blt (b_tuple T.n_tuple) (rar_cons (re_rd (re_lc [("a", 2), ("number", 3)] rfl sc_Rounds_backed.nd (ri_zip2 T.n_zip (ra_cons (re_var 1) (ra_cons (re_fld T.f_rounds (re_var 0)) (ra_nil)))) (blkOk_by (N := N_Rounds_backed) (sc := defScope s_Rounds_backed) (by decide +kernel)) (fun _ _ _ _ _ _ => by exact (gT 2 rfl (gsc (gN 2 sc_Rounds_backed.nd) (gsc (gN 3 sc_Rounds_backed.nd) (gs0))))) (fun _ _ _ _ _ => by exact (rts_nil)) (fun _ _ _ _ _ => by exact (re_mod (re_rd (re_sub (re_rd (re_int)) (re_rd (re_var 2)))) (re_rd (re_var 3)))))) (rar_nil))))
theorem b_Group_back (T : Txt P w K mg base) (MT_look_at : ∀ c g, mt_look_at c = some g → MtM P w K mg base 3 "look_at" c .S g) (MT_backed : ∀ c g, mt_backed c = some g → MtM P w K mg base 1 "backed" c .S g) {f : Addr} (cdv : Value) (A : Around) (outer : List PySem.Env) (s : Shared) (H : Hp) (E : XK) (hr : Room 3 (A.deeper (envOfC "Group.back" (defScope s_Group_back) s.heap.objs.size f cdv))) :
    RSs (cxOf (L2N.CX P w) P w K mg base N_Group_back "Group.back" (defScope s_Group_back) f cdv A outer s H E) (WD E) .S (defBody s_Group_back) e_Group_back :=
  rss_cons (rs_expr (re_meth MT_look_at (hr.mono (by decide)) (takes_of rfl rfl rfl rfl) (re_var 0) (ra_cons (re_var 1) (ra_nil))))
    (rss_one (rs_ret (re_meth MT_backed (hr.mono (by decide)) (takes_of rfl rfl rfl rfl) (re_var 0) (ra_cons (re_var 1) (ra_nil)))))
theorem b_own_carry (T : Txt P w K mg base) (MT_added : ∀ c g, mt_added c = some g → MtM P w K mg base 4 "added" c .S g) (MT_back : ∀ c g, mt_back c = some g → MtM P w K mg base 4 "back" c .S g) {f : Addr} (cdv : Value) (A : Around) (outer : List PySem.Env) (s : Shared) (H : Hp) (E : XK) (hr : Room 4 (A.deeper (envOfC "own_carry" (defScope s_own_carry) s.heap.objs.size f cdv))) :
    RSs (cxOf (L2N.CX P w) P w K mg base N_own_carry "own_carry" (defScope s_own_carry) f cdv A outer s H E) (WD E) .S (defBody s_own_carry) e_own_carry :=
  rss_one (rs_ret (re_meth MT_added (hr.mono (by decide)) (takes_of rfl rfl rfl rfl) (re_var 0) (ra_cons (re_meth MT_added (hr.mono (by decide)) (takes_of rfl rfl rfl rfl) (re_var 0) (ra_cons (re_ix hr (re_rd (re_var 2)) (re_rd (re_var 3))) (ra_cons (re_ix hr (re_rd (re_var 2)) (re_rd (re_var 4))) (ra_nil)))) (ra_cons (re_meth MT_back (hr.mono (by decide)) (takes_of rfl rfl rfl rfl) (re_var 0) (ra_cons (re_ix hr (re_rd (re_var 2)) (re_rd (re_meth MT_added (hr.mono (by decide)) (takes_of rfl rfl rfl rfl) (re_var 1) (ra_cons (re_var 3) (ra_cons (re_var 4) (ra_nil)))))) (ra_nil))) (ra_nil)))))
theorem b_changed (T : Txt P w K mg base) (M_labels_of : FnM P w K mg base 3 "labels_of" .S d_labels_of) (MT_carries : ∀ c g, mt_carries c = some g → MtM P w K mg base 1 "carries" c .S g) (M_own_carry : FnM P w K mg base 5 "own_carry" .S d_own_carry) (MT_added : ∀ c g, mt_added c = some g → MtM P w K mg base 4 "added" c .S g) (MK_Table : MkM P w K mg base 4 2 d_Table_init) {f : Addr} (cdv : Value) (A : Around) (outer : List PySem.Env) (s : Shared) (H : Hp) (E : XK) (hr : Room 5 (A.deeper (envOfC "changed" (defScope s_changed) s.heap.objs.size f cdv))) :
    RSs (cxOf (L2N.CX P w) P w K mg base N_changed "changed" (defScope s_changed) f cdv A outer s H E) (WD E) .S (defBody s_changed) e_changed :=
  rss_cons (rs_set 2 sc_changed.nd (re_call M_labels_of (hr.mono (by decide)) (takes_of rfl rfl rfl rfl) (ra_cons (re_fld T.f_lower (re_var 0)) (ra_cons (re_fld T.f_upper (re_var 0)) (ra_cons (re_var 1) (ra_nil))))))
    (rss_cons (rs_setO 3 sc_changed.nd (re_dic0))
    (rss_cons (rs_for (passes_of rfl) rfl (by exact (ri_items (re_meth0 MT_carries (hr.mono (by decide)) (takes_of rfl rfl rfl rfl) (re_var 0)))) (by exact (gT 2 rfl (gsc (gN 4 sc_changed.nd) (gsc (gN 5 sc_changed.nd) (gs0)))))
    (by exact (rss_cons (rs_set 6 sc_changed.nd (re_call M_own_carry (hr.mono (by decide)) (takes_of rfl rfl rfl rfl) (ra_cons (re_fld T.f_lower (re_var 0)) (ra_cons (re_fld T.f_upper (re_var 0)) (ra_cons (re_var 2) (ra_cons (re_ix hr (re_rd (re_var 4)) (re_rd (re_int))) (ra_cons (re_ix hr (re_rd (re_var 4)) (re_rd (re_int))) (ra_nil))))))))
    (rss_one (rs_setItem 3 hr (re_meth MT_added (hr.mono (by decide)) (takes_of rfl rfl rfl rfl) (re_fld T.f_lower (re_var 0)) (ra_cons (re_var 5) (ra_cons (re_var 6) (ra_nil)))) (re_rd (re_var 4)))))))
    (rss_one (rs_frz 3 (rs_ret (re_make MK_Table (hr.mono (by decide)) (takes_of rfl rfl rfl rfl) (ra_cons (re_fld T.f_lower (re_var 0)) (ra_cons (re_fld T.f_upper (re_var 0)) (ra_cons (re_var 3) (ra_nil))))))))))
theorem b_q_lacks (T : Txt P w K mg base) (M_changed : FnM P w K mg base 6 "changed" .S d_changed) {f : Addr} (cdv : Value) (A : Around) (outer : List PySem.Env) (s : Shared) (H : Hp) (E : XK) (hr : Room 6 (A.deeper (envOfC "_law_lacks" (defScope s_q_lacks) s.heap.objs.size f cdv))) :
    RSs (cxOf (L2N.CX P w) P w K mg base N_q_lacks "_law_lacks" (defScope s_q_lacks) f cdv A outer s H E) (WD E) .S (defBody s_q_lacks) e_q_lacks :=
  rss_cons (rs_set 2 sc_q_lacks.nd (re_non))
    (rss_cons (rs_try T.ctM sc_q_lacks.nd (takes_of rfl rfl rfl rfl) (fun _ _ _ tk1 po1 => by exact (rss_one (rs_expr (re_call M_changed (hr.mono (by decide)) (tk1) (ra_cons (re_var 0) (ra_cons (re_var 1) (ra_nil))))))) (by exact (ClsD.as (i := 3) (names_own (u := 10) T.c_CarryError) rfl rfl rfl (by first | exact fun _ _ h => h | exact jset (by decide)) (fun _ _ => by exact (rss_cons (rs_set 2 sc_q_lacks.nd (re_str))
    (rss_one (rs_if (rt_val (re_blt (b_is T.isM T.n_isinstance) (rar_cons (re_rd (re_var 3)) (rar_cons (re_rd (re_cls (c := 26) T.c_NoRelabeling)) (rar_nil)))))
    (rss_one (rs_set 2 sc_q_lacks.nd (re_exf T.x_x (re_var 3))))
    (rss_nil))))) (by exact (ClsD.nil)))))
    (rss_one (rs_ret (re_var 2))))
theorem b_q_whole (T : Txt P w K mg base) {f : Addr} (cdv : Value) (A : Around) (outer : List PySem.Env) (s : Shared) (H : Hp) (E : XK) (hr : Room 0 (A.deeper (envOfC "_law_whole" (defScope s_q_whole) s.heap.objs.size f cdv))) :
    RSs (cxOf (L2N.CX P w) P w K mg base N_q_whole "_law_whole" (defScope s_q_whole) f cdv A outer s H E) (WD E) .S (defBody s_q_whole) e_q_whole :=
  rss_one (rs_ret (re_and (re_blt (b_is T.isM T.n_isinstance) (rar_cons (re_rd (re_var 0)) (rar_cons (re_rd (re_ty T.n_int boot_ty_int)) (rar_nil)))) (re_one (re_not (re_blt (b_is T.isM T.n_isinstance) (rar_cons (re_rd (re_var 0)) (rar_cons (re_rd (re_ty T.n_bool boot_ty_bool)) (rar_nil))))))))
theorem b_q_are (T : Txt P w K mg base) (M_q_whole : FnM P w K mg base 1 "_law_whole" .S d_q_whole) {f : Addr} (cdv : Value) (A : Around) (outer : List PySem.Env) (s : Shared) (H : Hp) (E : XK) (hr : Room 1 (A.deeper (envOfC "_law_are" (defScope s_q_are) s.heap.objs.size f cdv))) :
    RSs (cxOf (L2N.CX P w) P w K mg base N_q_are "_law_are" (defScope s_q_are) f cdv A outer s H E) (WD E) .S (defBody s_q_are) e_q_are :=
  rss_one (rs_ret (re_and (re_blt (b_is T.isM T.n_isinstance) (rar_cons (re_rd (re_var 0)) (rar_cons (re_rd (re_ty T.n_tuple boot_ty_tuple)) (rar_nil)))) (re_and (re_cp (c_eq hr) (re_rd (re_blt (b_len T.n_len) (rar_cons (re_rd (re_var 0)) (rar_nil)))) (re_rd (re_var 1))) (re_one (re_blt (b_allT rfl T.n_all) (rar_cons (re_rd (re_lc [("_law_number", 2)] rfl sc_q_are.nd (re_iter (re_var 0)) (blkOk_by (N := N_q_are) (sc := defScope s_q_are) (by decide +kernel)) (fun _ _ _ _ _ _ => by exact (gN 2 sc_q_are.nd)) (fun _ _ _ _ _ => by exact (rts_nil)) (fun _ _ _ _ _ => by exact (re_call M_q_whole (hr.mono (by decide)) (takes0) (ra_cons (re_var 2) (ra_nil)))))) (rar_nil)))))))
theorem b_q_table_is (T : Txt P w K mg base) (MT_carries : ∀ c g, mt_carries c = some g → MtM P w K mg base 1 "carries" c .S g) (M_q_are : FnM P w K mg base 2 "_law_are" .S d_q_are) {f : Addr} (cdv : Value) (A : Around) (outer : List PySem.Env) (s : Shared) (H : Hp) (E : XK) (hr : Room 2 (A.deeper (envOfC "_law_table_is" (defScope s_q_table_is) s.heap.objs.size f cdv))) :
    RSs (cxOf (L2N.CX P w) P w K mg base N_q_table_is "_law_table_is" (defScope s_q_table_is) f cdv A outer s H E) (WD E) .S (defBody s_q_table_is) e_q_table_is :=
  rss_cons (rs_if (rt_pw (rw_or (rt_not (rt_val (re_blt (b_is T.isM T.n_isinstance) (rar_cons (re_rd (re_var 0)) (rar_cons (re_rd (re_cls (c := 2) T.c_Table)) (rar_nil)))))) (rw_or (rt_cp (c_ne hr) (re_rd (re_fld T.f_rounds (re_fld T.f_lower (re_var 0)))) (re_rd (re_var 1))) (rw_or1 (rt_cp (c_ne hr) (re_rd (re_fld T.f_rounds (re_fld T.f_upper (re_var 0)))) (re_rd (re_var 2)))))))
    (rss_one (rs_ret (re_bl)))
    (rss_nil))
    (rss_cons (rs_set 4 sc_q_table_is.nd (re_meth0 MT_carries (hr.mono (by decide)) (takes_of rfl rfl rfl rfl) (re_var 0)))
    (rss_one (rs_ret (re_and (re_cp (c_eq hr) (re_rd (re_var 4)) (re_rd (re_var 3))) (re_one (re_blt (b_allT rfl T.n_all) (rar_cons (re_rd (re_lc [("_law_pair", 5)] rfl sc_q_table_is.nd (re_iter (re_var 3)) (blkOk_by (N := N_q_table_is) (sc := defScope s_q_table_is) (by decide +kernel)) (fun _ _ _ _ _ _ => by exact (gN 5 sc_q_table_is.nd)) (fun _ _ _ _ _ => by exact (rts_nil)) (fun _ _ _ _ _ => by exact (re_call M_q_are (hr.mono (by decide)) (takes0) (ra_cons (re_ix hr (re_rd (re_var 4)) (re_rd (re_var 5))) (ra_cons (re_blt (b_len T.n_len) (rar_cons (re_rd (re_var 1)) (rar_nil))) (ra_nil))))))) (rar_nil))))))))
theorem b_law (T : Txt P w K mg base) (M_q_rounds : FnM P w K mg base 1 "_law_rounds" .S d_q_rounds) (M_q_cell : FnM P w K mg base 1 "_law_cell" .S d_q_cell) (M_q_any : FnM P w K mg base 2 "_law_any" .S d_q_any) (M_q_parts : FnM P w K mg base 3 "_law_parts" .S d_q_parts) (M_q_carries : FnM P w K mg base 3 "_law_carries" .S d_q_carries) (M_q_labels : FnM P w K mg base 2 "_law_labels" (.O .flat) d_q_labels) (MK_Table : MkM P w K mg base 4 2 d_Table_init) (MK_Rounds : MkM P w K mg base 3 0 d_Rounds_init) (M_q_all : FnM P w K mg base 1 "_law_all" .S d_q_all) (M_q_odd_thing : FnM P w K mg base 1 "_law_odd_thing" .S d_q_odd_thing) (M_q_lacks : FnM P w K mg base 7 "_law_lacks" .S d_q_lacks) (MT_carries : ∀ c g, mt_carries c = some g → MtM P w K mg base 1 "carries" c .S g) (M_q_sum : FnM P w K mg base 1 "_law_sum" .S d_q_sum) (M_q_own : FnM P w K mg base 2 "_law_own" .S d_q_own) (M_changed : FnM P w K mg base 6 "changed" .S d_changed) (M_q_table_is : FnM P w K mg base 3 "_law_table_is" .S d_q_table_is) {f : Addr} (cdv : Value) (A : Around) (outer : List PySem.Env) (s : Shared) (H : Hp) (E : XK) (hr : Room 7 (A.deeper (envOfC "law" (defScope s_law) s.heap.objs.size f cdv))) :
    RSs (cxOf (L2N.CX P w) P w K mg base N_law "law" (defScope s_law) f cdv A outer s H E) (WD E) .S (defBody s_law) e_law :=
  rss_cons (rs_asg (re_call M_q_rounds (hr.mono (by decide)) (takes_of rfl rfl rfl rfl) (ra_cons (re_call M_q_cell (hr.mono (by decide)) (takes_of rfl rfl rfl rfl) (ra_cons (re_var 0) (ra_cons (re_int) (ra_nil)))) (ra_cons (re_int) (ra_nil)))) (gT 2 rfl (gsc (gN 1 sc_law.nd) (gsc (gN 2 sc_law.nd) (gs0)))))
    (rss_cons (rs_set 3 sc_law.nd (re_call M_q_any (hr.mono (by decide)) (takes_of rfl rfl rfl rfl) (ra_cons (re_var 1) (ra_cons (re_var 2) (ra_cons (re_call M_q_cell (hr.mono (by decide)) (takes_of rfl rfl rfl rfl) (ra_cons (re_var 0) (ra_cons (re_int) (ra_nil)))) (ra_nil))))))
    (rss_cons (rs_if (rt_cp (c_eq hr) (re_rd (re_mod (re_rd (re_call M_q_cell (hr.mono (by decide)) (takes_of rfl rfl rfl rfl) (ra_cons (re_var 0) (ra_cons (re_int) (ra_nil))))) (re_rd (re_int)))) (re_rd (re_int)))
    (rss_cons (rs_set 4 sc_law.nd (re_call M_q_parts (hr.mono (by decide)) (takes_of rfl rfl rfl rfl) (ra_cons (re_var 1) (ra_cons (re_var 2) (ra_cons (re_call M_q_cell (hr.mono (by decide)) (takes_of rfl rfl rfl rfl) (ra_cons (re_var 0) (ra_cons (re_int) (ra_nil)))) (ra_nil))))))
    (rss_one (rs_set 3 sc_law.nd (re_call M_q_carries (hr.mono (by decide)) (takes_of rfl rfl rfl rfl) (ra_cons (re_var 1) (ra_cons (re_var 2) (ra_cons (re_var 4) (ra_cons (re_share (re_call M_q_labels (hr.mono (by decide)) (takes_of rfl rfl rfl rfl) (ra_cons (re_var 1) (ra_cons (re_var 2) (ra_cons (re_call M_q_cell (hr.mono (by decide)) (takes_of rfl rfl rfl rfl) (ra_cons (re_var 0) (ra_cons (re_int) (ra_nil)))) (ra_nil)))))) (ra_nil)))))))))
    (rss_nil))
    (rss_cons (rs_set 5 sc_law.nd (re_make MK_Table (hr.mono (by decide)) (takes_of rfl rfl rfl rfl) (ra_cons (re_make MK_Rounds (hr.mono (by decide)) (takes_of rfl rfl rfl rfl) (ra_cons (re_var 1) (ra_nil))) (ra_cons (re_make MK_Rounds (hr.mono (by decide)) (takes_of rfl rfl rfl rfl) (ra_cons (re_var 2) (ra_nil))) (ra_cons (re_share (re_blt (b_dict hr T.n_dict) (rar_cons (re_rd (re_var 3)) (rar_nil)))) (ra_nil))))))
    (rss_cons (rs_setO 6 sc_law.nd (re_call M_q_labels (hr.mono (by decide)) (takes_of rfl rfl rfl rfl) (ra_cons (re_var 1) (ra_cons (re_var 2) (ra_cons (re_call M_q_cell (hr.mono (by decide)) (takes_of rfl rfl rfl rfl) (ra_cons (re_var 0) (ra_cons (re_int) (ra_nil)))) (ra_nil))))))
    (rss_cons (rs_set 7 sc_law.nd (re_call M_q_all (hr.mono (by decide)) (takes_of rfl rfl rfl rfl) (ra_cons (re_var 2) (ra_nil))))
    (rss_cons (rs_if (rt_cp (c_eq hr) (re_rd (re_mod (re_rd (re_call M_q_cell (hr.mono (by decide)) (takes_of rfl rfl rfl rfl) (ra_cons (re_var 0) (ra_cons (re_int) (ra_nil))))) (re_rd (re_int)))) (re_rd (re_int)))
    (rss_cons (rs_set 8 sc_law.nd (re_ix hr (re_rd (re_var 7)) (re_rd (re_mod (re_rd (re_call M_q_cell (hr.mono (by decide)) (takes_of rfl rfl rfl rfl) (ra_cons (re_var 0) (ra_cons (re_int) (ra_nil))))) (re_rd (re_blt (b_len T.n_len) (rar_cons (re_rd (re_var 7)) (rar_nil))))))))
    (rss_cons (rs_set 9 sc_law.nd (re_ix hr (re_rd (re_var 7)) (re_rd (re_mod (re_rd (re_call M_q_cell (hr.mono (by decide)) (takes_of rfl rfl rfl rfl) (ra_cons (re_var 0) (ra_cons (re_int) (ra_nil))))) (re_rd (re_blt (b_len T.n_len) (rar_cons (re_rd (re_var 7)) (rar_nil))))))))
    (rss_cons (rs_setItem 6 hr (re_call M_q_odd_thing (hr.mono (by decide)) (takes_of rfl rfl rfl rfl) (ra_cons (re_var 1) (ra_cons (re_call M_q_cell (hr.mono (by decide)) (takes_of rfl rfl rfl rfl) (ra_cons (re_var 0) (ra_cons (re_int) (ra_nil)))) (ra_nil)))) (re_rd (re_var 8)))
    (rss_cons (rs_pop 6 hr (re_rd (re_var 9)))
    (rss_one (rs_frz 6 (rs_ret (re_and (re_cp (c_eq hr) (re_rd (re_call M_q_lacks (hr.mono (by decide)) (takes_of rfl rfl rfl rfl) (ra_cons (re_var 5) (ra_cons (re_var 6) (ra_nil))))) (re_rd (re_blt (b_minT rfl hr T.n_min) (rar_cons (re_rd (re_var 8)) (rar_cons (re_rd (re_var 9)) (rar_nil)))))) (re_one (re_cp (c_eq hr) (re_rd (re_meth0 MT_carries (hr.mono (by decide)) (takes_of rfl rfl rfl rfl) (re_var 5))) (re_rd (re_var 3))))))))))))
    (rss_nil))
    (rss_cons (rs_setO 10 sc_law.nd (re_dic0))
    (rss_cons (rs_for (passes_of rfl) rfl (by exact (re_iter (re_var 3))) (by exact (gT 2 rfl (gsc (gN 11 sc_law.nd) (gsc (gN 12 sc_law.nd) (gs0)))))
    (by exact (rss_one (rs_frz 6 (rs_setItem 10 hr (re_call M_q_sum (hr.mono (by decide)) (takes_of rfl rfl rfl rfl) (ra_cons (re_var 1) (ra_cons (re_ix hr (re_rd (re_var 3)) (re_rd (re_tup (ra_cons (re_var 11) (ra_cons (re_var 12) (ra_nil)))))) (ra_cons (re_call M_q_own (hr.mono (by decide)) (takes_of rfl rfl rfl rfl) (ra_cons (re_var 1) (ra_cons (re_var 2) (ra_cons (re_var 6) (ra_cons (re_var 11) (ra_cons (re_var 12) (ra_nil))))))) (ra_nil))))) (re_rd (re_tup (ra_cons (re_var 11) (ra_cons (re_var 12) (ra_nil))))))))))
    (rss_cons (rs_setO 13 sc_law.nd (re_blt (b_dict hr T.n_dict) (rar_cons (re_varR 6) (rar_nil))))
    (rss_cons (rs_setM 13 hr (re_tup (ra_cons (re_int) (ra_nil))) (re_rd (re_int)))
    (rss_cons (rs_set 14 sc_law.nd (re_lendM 13 (re_call M_changed (hr.mono (by decide)) (takes_of rfl rfl rfl rfl) (ra_cons (re_var 5) (ra_cons (re_var 13) (ra_nil))))))
    (rss_cons (rs_popM 13 hr (re_rd (re_int)))
    (rss_cons (rs_frz 10 (rs_if (rt_pw (rw_or (rt_cp (c_ne hr) (re_varR 13) (re_varR 6)) (rw_or (rt_not (rt_val (re_call M_q_table_is (hr.mono (by decide)) (takes_of rfl rfl rfl rfl) (ra_cons (re_var 14) (ra_cons (re_var 1) (ra_cons (re_var 2) (ra_cons (re_var 10) (ra_nil)))))))) (rw_or1 (rt_cp (c_ne hr) (re_rd (re_meth0 MT_carries (hr.mono (by decide)) (takes_of rfl rfl rfl rfl) (re_var 5))) (re_rd (re_var 3)))))))
    (rss_one (rs_ret (re_bl)))
    (rss_nil)))
    (rss_cons (rs_setO 15 sc_law.nd (re_dic0))
    (rss_cons (rs_for (passes_of rfl) rfl (by exact (re_iter (re_var 7))) (by exact (gN 11 sc_law.nd))
    (by exact (rss_one (rs_setItem 15 hr (re_blt (b_tuple T.n_tuple) (rar_cons (re_rd (re_lc [("_law_number", 16)] rfl sc_law.nd (re_iter (re_var 1)) (blkOk_by (N := N_law) (sc := defScope s_law) (by decide +kernel)) (fun _ _ _ _ _ _ => by exact (gN 16 sc_law.nd)) (fun _ _ _ _ _ => by exact (rts_nil)) (fun _ _ _ _ _ => by exact (re_int)))) (rar_nil))) (re_rd (re_var 11))))))
    (rss_cons (rs_clear 13)
    (rss_one (rs_frz 15 (rs_ret (re_and (re_call M_q_table_is (hr.mono (by decide)) (takes_of rfl rfl rfl rfl) (ra_cons (re_call M_changed (hr.mono (by decide)) (takes_of rfl rfl rfl rfl) (ra_cons (re_var 5) (ra_cons (re_var 15) (ra_nil)))) (ra_cons (re_var 1) (ra_cons (re_var 2) (ra_cons (re_var 3) (ra_nil)))))) (re_one (re_cp (c_eq hr) (re_rd (re_meth0 MT_carries (hr.mono (by decide)) (takes_of rfl rfl rfl rfl) (re_var 14))) (re_varR 10)))))))))))))))))))))))
end
end
theorem all_mk {P q : Program} {w : World} {K : PySem.W.Frag} {h : Heap} {mg : Str → Option Value} {fa C_CarryError C_NoRounds C_NoElement C_NoLower C_NoUpper C_NoCarry C_NoRelabeling C_Group C_Rounds C_Table f_q_rounds f_q_cell f_q_all f_q_drawn f_q_size f_q_any f_q_shared f_q_odd f_q_parts f_q_sum f_q_times f_q_carry f_q_own f_q_carries f_q_labels f_Rounds_members f_Group_size f_Rounds_is_even f_look_at_groups f_is_whole f_Rounds_has f_NoCarry_init f_Table_init f_are_rounds f_Rounds_init f_q_odd_thing f_NoRelabeling_init f_labels_of f_Table_carries f_Group_look_at f_Rounds_put f_Group_added f_Rounds_backed f_Group_back f_own_carry f_changed f_q_lacks f_q_whole f_q_are f_q_table_is f_law : Addr} (X : K.In h) (G : h.Ns mainGlobals mg) (hfa : mg "law" = some (.ref fa))
    {oc_q_rounds kV_q_rounds dc_q_rounds pm_q_rounds cd_q_rounds ct_q_rounds : Value} {od_q_rounds an_q_rounds : Option Addr} {sl_q_rounds : Array (Option Value)}
    {oc_q_cell kV_q_cell dc_q_cell pm_q_cell cd_q_cell ct_q_cell : Value} {od_q_cell an_q_cell : Option Addr} {sl_q_cell : Array (Option Value)}
    {oc_q_all kV_q_all dc_q_all pm_q_all cd_q_all ct_q_all : Value} {od_q_all an_q_all : Option Addr} {sl_q_all : Array (Option Value)}
    {oc_q_drawn kV_q_drawn dc_q_drawn pm_q_drawn cd_q_drawn ct_q_drawn : Value} {od_q_drawn an_q_drawn : Option Addr} {sl_q_drawn : Array (Option Value)}
    {oc_q_size kV_q_size dc_q_size pm_q_size cd_q_size ct_q_size : Value} {od_q_size an_q_size : Option Addr} {sl_q_size : Array (Option Value)}
    {oc_q_any kV_q_any dc_q_any pm_q_any cd_q_any ct_q_any : Value} {od_q_any an_q_any : Option Addr} {sl_q_any : Array (Option Value)}
    {oc_q_shared kV_q_shared dc_q_shared pm_q_shared cd_q_shared ct_q_shared : Value} {od_q_shared an_q_shared : Option Addr} {sl_q_shared : Array (Option Value)}
    {oc_q_odd kV_q_odd dc_q_odd pm_q_odd cd_q_odd ct_q_odd : Value} {od_q_odd an_q_odd : Option Addr} {sl_q_odd : Array (Option Value)}
    {oc_q_parts kV_q_parts dc_q_parts pm_q_parts cd_q_parts ct_q_parts : Value} {od_q_parts an_q_parts : Option Addr} {sl_q_parts : Array (Option Value)}
    {oc_q_sum kV_q_sum dc_q_sum pm_q_sum cd_q_sum ct_q_sum : Value} {od_q_sum an_q_sum : Option Addr} {sl_q_sum : Array (Option Value)}
    {oc_q_times kV_q_times dc_q_times pm_q_times cd_q_times ct_q_times : Value} {od_q_times an_q_times : Option Addr} {sl_q_times : Array (Option Value)}
    {oc_q_carry kV_q_carry dc_q_carry pm_q_carry cd_q_carry ct_q_carry : Value} {od_q_carry an_q_carry : Option Addr} {sl_q_carry : Array (Option Value)}
    {oc_q_own kV_q_own dc_q_own pm_q_own cd_q_own ct_q_own : Value} {od_q_own an_q_own : Option Addr} {sl_q_own : Array (Option Value)}
    {oc_q_carries kV_q_carries dc_q_carries pm_q_carries cd_q_carries ct_q_carries : Value} {od_q_carries an_q_carries : Option Addr} {sl_q_carries : Array (Option Value)}
    {oc_q_labels kV_q_labels dc_q_labels pm_q_labels cd_q_labels ct_q_labels : Value} {od_q_labels an_q_labels : Option Addr} {sl_q_labels : Array (Option Value)}
    {oc_Rounds_members kV_Rounds_members dc_Rounds_members pm_Rounds_members cd_Rounds_members ct_Rounds_members : Value} {od_Rounds_members an_Rounds_members : Option Addr} {sl_Rounds_members : Array (Option Value)}
    {oc_Group_size kV_Group_size dc_Group_size pm_Group_size cd_Group_size ct_Group_size : Value} {od_Group_size an_Group_size : Option Addr} {sl_Group_size : Array (Option Value)}
    {oc_Rounds_is_even kV_Rounds_is_even dc_Rounds_is_even pm_Rounds_is_even cd_Rounds_is_even ct_Rounds_is_even : Value} {od_Rounds_is_even an_Rounds_is_even : Option Addr} {sl_Rounds_is_even : Array (Option Value)}
    {oc_look_at_groups kV_look_at_groups dc_look_at_groups pm_look_at_groups cd_look_at_groups ct_look_at_groups : Value} {od_look_at_groups an_look_at_groups : Option Addr} {sl_look_at_groups : Array (Option Value)}
    {oc_is_whole kV_is_whole dc_is_whole pm_is_whole cd_is_whole ct_is_whole : Value} {od_is_whole an_is_whole : Option Addr} {sl_is_whole : Array (Option Value)}
    {oc_Rounds_has kV_Rounds_has dc_Rounds_has pm_Rounds_has cd_Rounds_has ct_Rounds_has : Value} {od_Rounds_has an_Rounds_has : Option Addr} {sl_Rounds_has : Array (Option Value)}
    {oc_NoCarry_init kV_NoCarry_init dc_NoCarry_init pm_NoCarry_init cd_NoCarry_init ct_NoCarry_init : Value} {od_NoCarry_init an_NoCarry_init : Option Addr} {sl_NoCarry_init : Array (Option Value)}
    {oc_Table_init kV_Table_init dc_Table_init pm_Table_init cd_Table_init ct_Table_init : Value} {od_Table_init an_Table_init : Option Addr} {sl_Table_init : Array (Option Value)}
    {oc_are_rounds kV_are_rounds dc_are_rounds pm_are_rounds cd_are_rounds ct_are_rounds : Value} {od_are_rounds an_are_rounds : Option Addr} {sl_are_rounds : Array (Option Value)}
    {oc_Rounds_init kV_Rounds_init dc_Rounds_init pm_Rounds_init cd_Rounds_init ct_Rounds_init : Value} {od_Rounds_init an_Rounds_init : Option Addr} {sl_Rounds_init : Array (Option Value)}
    {oc_q_odd_thing kV_q_odd_thing dc_q_odd_thing pm_q_odd_thing cd_q_odd_thing ct_q_odd_thing : Value} {od_q_odd_thing an_q_odd_thing : Option Addr} {sl_q_odd_thing : Array (Option Value)}
    {oc_NoRelabeling_init kV_NoRelabeling_init dc_NoRelabeling_init pm_NoRelabeling_init cd_NoRelabeling_init ct_NoRelabeling_init : Value} {od_NoRelabeling_init an_NoRelabeling_init : Option Addr} {sl_NoRelabeling_init : Array (Option Value)}
    {oc_labels_of kV_labels_of dc_labels_of pm_labels_of cd_labels_of ct_labels_of : Value} {od_labels_of an_labels_of : Option Addr} {sl_labels_of : Array (Option Value)}
    {oc_Table_carries kV_Table_carries dc_Table_carries pm_Table_carries cd_Table_carries ct_Table_carries : Value} {od_Table_carries an_Table_carries : Option Addr} {sl_Table_carries : Array (Option Value)}
    {oc_Group_look_at kV_Group_look_at dc_Group_look_at pm_Group_look_at cd_Group_look_at ct_Group_look_at : Value} {od_Group_look_at an_Group_look_at : Option Addr} {sl_Group_look_at : Array (Option Value)}
    {oc_Rounds_put kV_Rounds_put dc_Rounds_put pm_Rounds_put cd_Rounds_put ct_Rounds_put : Value} {od_Rounds_put an_Rounds_put : Option Addr} {sl_Rounds_put : Array (Option Value)}
    {oc_Group_added kV_Group_added dc_Group_added pm_Group_added cd_Group_added ct_Group_added : Value} {od_Group_added an_Group_added : Option Addr} {sl_Group_added : Array (Option Value)}
    {oc_Rounds_backed kV_Rounds_backed dc_Rounds_backed pm_Rounds_backed cd_Rounds_backed ct_Rounds_backed : Value} {od_Rounds_backed an_Rounds_backed : Option Addr} {sl_Rounds_backed : Array (Option Value)}
    {oc_Group_back kV_Group_back dc_Group_back pm_Group_back cd_Group_back ct_Group_back : Value} {od_Group_back an_Group_back : Option Addr} {sl_Group_back : Array (Option Value)}
    {oc_own_carry kV_own_carry dc_own_carry pm_own_carry cd_own_carry ct_own_carry : Value} {od_own_carry an_own_carry : Option Addr} {sl_own_carry : Array (Option Value)}
    {oc_changed kV_changed dc_changed pm_changed cd_changed ct_changed : Value} {od_changed an_changed : Option Addr} {sl_changed : Array (Option Value)}
    {oc_q_lacks kV_q_lacks dc_q_lacks pm_q_lacks cd_q_lacks ct_q_lacks : Value} {od_q_lacks an_q_lacks : Option Addr} {sl_q_lacks : Array (Option Value)}
    {oc_q_whole kV_q_whole dc_q_whole pm_q_whole cd_q_whole ct_q_whole : Value} {od_q_whole an_q_whole : Option Addr} {sl_q_whole : Array (Option Value)}
    {oc_q_are kV_q_are dc_q_are pm_q_are cd_q_are ct_q_are : Value} {od_q_are an_q_are : Option Addr} {sl_q_are : Array (Option Value)}
    {oc_q_table_is kV_q_table_is dc_q_table_is pm_q_table_is cd_q_table_is ct_q_table_is : Value} {od_q_table_is an_q_table_is : Option Addr} {sl_q_table_is : Array (Option Value)}
    {oc_law kV_law dc_law pm_law cd_law ct_law : Value} {od_law an_law : Option Addr} {sl_law : Array (Option Value)}
    {t_MOST_LOWER : Tok}
    {t_MOST_UPPER : Tok}
    {nm_NoCarry q_NoCarry : Str} {NA_NoCarry : Addr} {bs_NoCarry bm_NoCarry : List Value} {sn_NoCarry : List Str} {sub_NoCarry : List Value} {ab_NoCarry : Bool} {col_NoCarry : Option Bool} {dd_NoCarry : Option Addr} {k0_NoCarry k1_NoCarry k2_NoCarry k3_NoCarry k5_NoCarry : Option Value}
    {t_MOST_ROUNDS : Tok}
    {t_MOST_ELEMENTS : Tok}
    {nm_NoRelabeling q_NoRelabeling : Str} {NA_NoRelabeling : Addr} {bs_NoRelabeling bm_NoRelabeling : List Value} {sn_NoRelabeling : List Str} {sub_NoRelabeling : List Value} {ab_NoRelabeling : Bool} {col_NoRelabeling : Option Bool} {dd_NoRelabeling : Option Addr} {k0_NoRelabeling k1_NoRelabeling k2_NoRelabeling k3_NoRelabeling k5_NoRelabeling : Option Value}
    (aC_CarryError : PySem.W.nsIn K mainGlobals "CarryError" = some (some (.ref C_CarryError)))
    (aC_NoRounds : PySem.W.nsIn K mainGlobals "NoRounds" = some (some (.ref C_NoRounds)))
    (aC_NoElement : PySem.W.nsIn K mainGlobals "NoElement" = some (some (.ref C_NoElement)))
    (aC_NoLower : PySem.W.nsIn K mainGlobals "NoLower" = some (some (.ref C_NoLower)))
    (aC_NoUpper : PySem.W.nsIn K mainGlobals "NoUpper" = some (some (.ref C_NoUpper)))
    (aC_NoCarry : PySem.W.nsIn K mainGlobals "NoCarry" = some (some (.ref C_NoCarry)))
    (aC_NoRelabeling : PySem.W.nsIn K mainGlobals "NoRelabeling" = some (some (.ref C_NoRelabeling)))
    (aC_Group : PySem.W.nsIn K mainGlobals "Group" = some (some (.ref C_Group)))
    (aC_Rounds : PySem.W.nsIn K mainGlobals "Rounds" = some (some (.ref C_Rounds)))
    (aC_Table : PySem.W.nsIn K mainGlobals "Table" = some (some (.ref C_Table)))
    (a_q_rounds : PySem.W.nsIn K mainGlobals "_law_rounds" = some (some (.ref f_q_rounds)))
    (l_q_rounds : K.lookup f_q_rounds = some ⟨oc_q_rounds, od_q_rounds, .func (PySem.W.fnOf "_law_rounds" "_law_rounds" (defArgs s_q_rounds) (defBody s_q_rounds) (defScope s_q_rounds) .none kV_q_rounds dc_q_rounds pm_q_rounds an_q_rounds cd_q_rounds ct_q_rounds), sl_q_rounds⟩)
    (c_q_rounds : PySem.W.codeIn K cd_q_rounds "_law_rounds" = true) (k_q_rounds : PySem.W.keepIn K (.ref f_q_rounds) = true)
    (a_q_cell : PySem.W.nsIn K mainGlobals "_law_cell" = some (some (.ref f_q_cell)))
    (l_q_cell : K.lookup f_q_cell = some ⟨oc_q_cell, od_q_cell, .func (PySem.W.fnOf "_law_cell" "_law_cell" (defArgs s_q_cell) (defBody s_q_cell) (defScope s_q_cell) .none kV_q_cell dc_q_cell pm_q_cell an_q_cell cd_q_cell ct_q_cell), sl_q_cell⟩)
    (c_q_cell : PySem.W.codeIn K cd_q_cell "_law_cell" = true) (k_q_cell : PySem.W.keepIn K (.ref f_q_cell) = true)
    (a_q_all : PySem.W.nsIn K mainGlobals "_law_all" = some (some (.ref f_q_all)))
    (l_q_all : K.lookup f_q_all = some ⟨oc_q_all, od_q_all, .func (PySem.W.fnOf "_law_all" "_law_all" (defArgs s_q_all) (defBody s_q_all) (defScope s_q_all) .none kV_q_all dc_q_all pm_q_all an_q_all cd_q_all ct_q_all), sl_q_all⟩)
    (c_q_all : PySem.W.codeIn K cd_q_all "_law_all" = true) (k_q_all : PySem.W.keepIn K (.ref f_q_all) = true)
    (a_q_drawn : PySem.W.nsIn K mainGlobals "_law_drawn" = some (some (.ref f_q_drawn)))
    (l_q_drawn : K.lookup f_q_drawn = some ⟨oc_q_drawn, od_q_drawn, .func (PySem.W.fnOf "_law_drawn" "_law_drawn" (defArgs s_q_drawn) (defBody s_q_drawn) (defScope s_q_drawn) .none kV_q_drawn dc_q_drawn pm_q_drawn an_q_drawn cd_q_drawn ct_q_drawn), sl_q_drawn⟩)
    (c_q_drawn : PySem.W.codeIn K cd_q_drawn "_law_drawn" = true) (k_q_drawn : PySem.W.keepIn K (.ref f_q_drawn) = true)
    (a_q_size : PySem.W.nsIn K mainGlobals "_law_size" = some (some (.ref f_q_size)))
    (l_q_size : K.lookup f_q_size = some ⟨oc_q_size, od_q_size, .func (PySem.W.fnOf "_law_size" "_law_size" (defArgs s_q_size) (defBody s_q_size) (defScope s_q_size) .none kV_q_size dc_q_size pm_q_size an_q_size cd_q_size ct_q_size), sl_q_size⟩)
    (c_q_size : PySem.W.codeIn K cd_q_size "_law_size" = true) (k_q_size : PySem.W.keepIn K (.ref f_q_size) = true)
    (a_q_any : PySem.W.nsIn K mainGlobals "_law_any" = some (some (.ref f_q_any)))
    (l_q_any : K.lookup f_q_any = some ⟨oc_q_any, od_q_any, .func (PySem.W.fnOf "_law_any" "_law_any" (defArgs s_q_any) (defBody s_q_any) (defScope s_q_any) .none kV_q_any dc_q_any pm_q_any an_q_any cd_q_any ct_q_any), sl_q_any⟩)
    (c_q_any : PySem.W.codeIn K cd_q_any "_law_any" = true) (k_q_any : PySem.W.keepIn K (.ref f_q_any) = true)
    (a_q_shared : PySem.W.nsIn K mainGlobals "_law_shared" = some (some (.ref f_q_shared)))
    (l_q_shared : K.lookup f_q_shared = some ⟨oc_q_shared, od_q_shared, .func (PySem.W.fnOf "_law_shared" "_law_shared" (defArgs s_q_shared) (defBody s_q_shared) (defScope s_q_shared) .none kV_q_shared dc_q_shared pm_q_shared an_q_shared cd_q_shared ct_q_shared), sl_q_shared⟩)
    (c_q_shared : PySem.W.codeIn K cd_q_shared "_law_shared" = true) (k_q_shared : PySem.W.keepIn K (.ref f_q_shared) = true)
    (a_q_odd : PySem.W.nsIn K mainGlobals "_law_odd" = some (some (.ref f_q_odd)))
    (l_q_odd : K.lookup f_q_odd = some ⟨oc_q_odd, od_q_odd, .func (PySem.W.fnOf "_law_odd" "_law_odd" (defArgs s_q_odd) (defBody s_q_odd) (defScope s_q_odd) .none kV_q_odd dc_q_odd pm_q_odd an_q_odd cd_q_odd ct_q_odd), sl_q_odd⟩)
    (c_q_odd : PySem.W.codeIn K cd_q_odd "_law_odd" = true) (k_q_odd : PySem.W.keepIn K (.ref f_q_odd) = true)
    (a_q_parts : PySem.W.nsIn K mainGlobals "_law_parts" = some (some (.ref f_q_parts)))
    (l_q_parts : K.lookup f_q_parts = some ⟨oc_q_parts, od_q_parts, .func (PySem.W.fnOf "_law_parts" "_law_parts" (defArgs s_q_parts) (defBody s_q_parts) (defScope s_q_parts) .none kV_q_parts dc_q_parts pm_q_parts an_q_parts cd_q_parts ct_q_parts), sl_q_parts⟩)
    (c_q_parts : PySem.W.codeIn K cd_q_parts "_law_parts" = true) (k_q_parts : PySem.W.keepIn K (.ref f_q_parts) = true)
    (a_q_sum : PySem.W.nsIn K mainGlobals "_law_sum" = some (some (.ref f_q_sum)))
    (l_q_sum : K.lookup f_q_sum = some ⟨oc_q_sum, od_q_sum, .func (PySem.W.fnOf "_law_sum" "_law_sum" (defArgs s_q_sum) (defBody s_q_sum) (defScope s_q_sum) .none kV_q_sum dc_q_sum pm_q_sum an_q_sum cd_q_sum ct_q_sum), sl_q_sum⟩)
    (c_q_sum : PySem.W.codeIn K cd_q_sum "_law_sum" = true) (k_q_sum : PySem.W.keepIn K (.ref f_q_sum) = true)
    (a_q_times : PySem.W.nsIn K mainGlobals "_law_times" = some (some (.ref f_q_times)))
    (l_q_times : K.lookup f_q_times = some ⟨oc_q_times, od_q_times, .func (PySem.W.fnOf "_law_times" "_law_times" (defArgs s_q_times) (defBody s_q_times) (defScope s_q_times) .none kV_q_times dc_q_times pm_q_times an_q_times cd_q_times ct_q_times), sl_q_times⟩)
    (c_q_times : PySem.W.codeIn K cd_q_times "_law_times" = true) (k_q_times : PySem.W.keepIn K (.ref f_q_times) = true)
    (a_q_carry : PySem.W.nsIn K mainGlobals "_law_carry" = some (some (.ref f_q_carry)))
    (l_q_carry : K.lookup f_q_carry = some ⟨oc_q_carry, od_q_carry, .func (PySem.W.fnOf "_law_carry" "_law_carry" (defArgs s_q_carry) (defBody s_q_carry) (defScope s_q_carry) .none kV_q_carry dc_q_carry pm_q_carry an_q_carry cd_q_carry ct_q_carry), sl_q_carry⟩)
    (c_q_carry : PySem.W.codeIn K cd_q_carry "_law_carry" = true) (k_q_carry : PySem.W.keepIn K (.ref f_q_carry) = true)
    (a_q_own : PySem.W.nsIn K mainGlobals "_law_own" = some (some (.ref f_q_own)))
    (l_q_own : K.lookup f_q_own = some ⟨oc_q_own, od_q_own, .func (PySem.W.fnOf "_law_own" "_law_own" (defArgs s_q_own) (defBody s_q_own) (defScope s_q_own) .none kV_q_own dc_q_own pm_q_own an_q_own cd_q_own ct_q_own), sl_q_own⟩)
    (c_q_own : PySem.W.codeIn K cd_q_own "_law_own" = true) (k_q_own : PySem.W.keepIn K (.ref f_q_own) = true)
    (a_q_carries : PySem.W.nsIn K mainGlobals "_law_carries" = some (some (.ref f_q_carries)))
    (l_q_carries : K.lookup f_q_carries = some ⟨oc_q_carries, od_q_carries, .func (PySem.W.fnOf "_law_carries" "_law_carries" (defArgs s_q_carries) (defBody s_q_carries) (defScope s_q_carries) .none kV_q_carries dc_q_carries pm_q_carries an_q_carries cd_q_carries ct_q_carries), sl_q_carries⟩)
    (c_q_carries : PySem.W.codeIn K cd_q_carries "_law_carries" = true) (k_q_carries : PySem.W.keepIn K (.ref f_q_carries) = true)
    (a_q_labels : PySem.W.nsIn K mainGlobals "_law_labels" = some (some (.ref f_q_labels)))
    (l_q_labels : K.lookup f_q_labels = some ⟨oc_q_labels, od_q_labels, .func (PySem.W.fnOf "_law_labels" "_law_labels" (defArgs s_q_labels) (defBody s_q_labels) (defScope s_q_labels) .none kV_q_labels dc_q_labels pm_q_labels an_q_labels cd_q_labels ct_q_labels), sl_q_labels⟩)
    (c_q_labels : PySem.W.codeIn K cd_q_labels "_law_labels" = true) (k_q_labels : PySem.W.keepIn K (.ref f_q_labels) = true)
    (a_Rounds_members : PySem.W.findIn K (.ref C_Rounds) "members" = some (some (.ref f_Rounds_members)))
    (l_Rounds_members : K.lookup f_Rounds_members = some ⟨oc_Rounds_members, od_Rounds_members, .func (PySem.W.fnOf "members" "Rounds.members" (defArgs s_Rounds_members) (defBody s_Rounds_members) (defScope s_Rounds_members) .none kV_Rounds_members dc_Rounds_members pm_Rounds_members an_Rounds_members cd_Rounds_members ct_Rounds_members), sl_Rounds_members⟩)
    (c_Rounds_members : PySem.W.codeIn K cd_Rounds_members "Rounds.members" = true) (k_Rounds_members : PySem.W.keepIn K (.ref f_Rounds_members) = true)
    (i_Rounds_members : PySem.W.isFn K (.ref f_Rounds_members) = true)
    (a_Group_size : PySem.W.findIn K (.ref C_Group) "size" = some (some (.ref f_Group_size)))
    (l_Group_size : K.lookup f_Group_size = some ⟨oc_Group_size, od_Group_size, .func (PySem.W.fnOf "size" "Group.size" (defArgs s_Group_size) (defBody s_Group_size) (defScope s_Group_size) .none kV_Group_size dc_Group_size pm_Group_size an_Group_size cd_Group_size ct_Group_size), sl_Group_size⟩)
    (c_Group_size : PySem.W.codeIn K cd_Group_size "Group.size" = true) (k_Group_size : PySem.W.keepIn K (.ref f_Group_size) = true)
    (i_Group_size : PySem.W.isFn K (.ref f_Group_size) = true)
    (a_Rounds_is_even : PySem.W.findIn K (.ref C_Rounds) "is_even" = some (some (.ref f_Rounds_is_even)))
    (l_Rounds_is_even : K.lookup f_Rounds_is_even = some ⟨oc_Rounds_is_even, od_Rounds_is_even, .func (PySem.W.fnOf "is_even" "Rounds.is_even" (defArgs s_Rounds_is_even) (defBody s_Rounds_is_even) (defScope s_Rounds_is_even) .none kV_Rounds_is_even dc_Rounds_is_even pm_Rounds_is_even an_Rounds_is_even cd_Rounds_is_even ct_Rounds_is_even), sl_Rounds_is_even⟩)
    (c_Rounds_is_even : PySem.W.codeIn K cd_Rounds_is_even "Rounds.is_even" = true) (k_Rounds_is_even : PySem.W.keepIn K (.ref f_Rounds_is_even) = true)
    (i_Rounds_is_even : PySem.W.isFn K (.ref f_Rounds_is_even) = true)
    (a_look_at_groups : PySem.W.nsIn K mainGlobals "look_at_groups" = some (some (.ref f_look_at_groups)))
    (l_look_at_groups : K.lookup f_look_at_groups = some ⟨oc_look_at_groups, od_look_at_groups, .func (PySem.W.fnOf "look_at_groups" "look_at_groups" (defArgs s_look_at_groups) (defBody s_look_at_groups) (defScope s_look_at_groups) .none kV_look_at_groups dc_look_at_groups pm_look_at_groups an_look_at_groups cd_look_at_groups ct_look_at_groups), sl_look_at_groups⟩)
    (c_look_at_groups : PySem.W.codeIn K cd_look_at_groups "look_at_groups" = true) (k_look_at_groups : PySem.W.keepIn K (.ref f_look_at_groups) = true)
    (a_is_whole : PySem.W.nsIn K mainGlobals "is_whole" = some (some (.ref f_is_whole)))
    (l_is_whole : K.lookup f_is_whole = some ⟨oc_is_whole, od_is_whole, .func (PySem.W.fnOf "is_whole" "is_whole" (defArgs s_is_whole) (defBody s_is_whole) (defScope s_is_whole) .none kV_is_whole dc_is_whole pm_is_whole an_is_whole cd_is_whole ct_is_whole), sl_is_whole⟩)
    (c_is_whole : PySem.W.codeIn K cd_is_whole "is_whole" = true) (k_is_whole : PySem.W.keepIn K (.ref f_is_whole) = true)
    (a_Rounds_has : PySem.W.findIn K (.ref C_Rounds) "has" = some (some (.ref f_Rounds_has)))
    (l_Rounds_has : K.lookup f_Rounds_has = some ⟨oc_Rounds_has, od_Rounds_has, .func (PySem.W.fnOf "has" "Rounds.has" (defArgs s_Rounds_has) (defBody s_Rounds_has) (defScope s_Rounds_has) .none kV_Rounds_has dc_Rounds_has pm_Rounds_has an_Rounds_has cd_Rounds_has ct_Rounds_has), sl_Rounds_has⟩)
    (c_Rounds_has : PySem.W.codeIn K cd_Rounds_has "Rounds.has" = true) (k_Rounds_has : PySem.W.keepIn K (.ref f_Rounds_has) = true)
    (i_Rounds_has : PySem.W.isFn K (.ref f_Rounds_has) = true)
    (a_NoCarry_init : PySem.W.findIn K (.ref C_NoCarry) "__init__" = some (some (.ref f_NoCarry_init)))
    (l_NoCarry_init : K.lookup f_NoCarry_init = some ⟨oc_NoCarry_init, od_NoCarry_init, .func (PySem.W.fnOf "__init__" "NoCarry.__init__" (defArgs s_NoCarry_init) (defBody s_NoCarry_init) (defScope s_NoCarry_init) .none kV_NoCarry_init dc_NoCarry_init pm_NoCarry_init an_NoCarry_init cd_NoCarry_init ct_NoCarry_init), sl_NoCarry_init⟩)
    (c_NoCarry_init : PySem.W.codeIn K cd_NoCarry_init "NoCarry.__init__" = true) (k_NoCarry_init : PySem.W.keepIn K (.ref f_NoCarry_init) = true)
    (a_Table_init : PySem.W.findIn K (.ref C_Table) "__init__" = some (some (.ref f_Table_init)))
    (l_Table_init : K.lookup f_Table_init = some ⟨oc_Table_init, od_Table_init, .func (PySem.W.fnOf "__init__" "Table.__init__" (defArgs s_Table_init) (defBody s_Table_init) (defScope s_Table_init) .none kV_Table_init dc_Table_init pm_Table_init an_Table_init cd_Table_init ct_Table_init), sl_Table_init⟩)
    (c_Table_init : PySem.W.codeIn K cd_Table_init "Table.__init__" = true) (k_Table_init : PySem.W.keepIn K (.ref f_Table_init) = true)
    (i_Table_init : PySem.W.isFn K (.ref f_Table_init) = true)
    (a_are_rounds : PySem.W.nsIn K mainGlobals "are_rounds" = some (some (.ref f_are_rounds)))
    (l_are_rounds : K.lookup f_are_rounds = some ⟨oc_are_rounds, od_are_rounds, .func (PySem.W.fnOf "are_rounds" "are_rounds" (defArgs s_are_rounds) (defBody s_are_rounds) (defScope s_are_rounds) .none kV_are_rounds dc_are_rounds pm_are_rounds an_are_rounds cd_are_rounds ct_are_rounds), sl_are_rounds⟩)
    (c_are_rounds : PySem.W.codeIn K cd_are_rounds "are_rounds" = true) (k_are_rounds : PySem.W.keepIn K (.ref f_are_rounds) = true)
    (a_Rounds_init : PySem.W.findIn K (.ref C_Rounds) "__init__" = some (some (.ref f_Rounds_init)))
    (l_Rounds_init : K.lookup f_Rounds_init = some ⟨oc_Rounds_init, od_Rounds_init, .func (PySem.W.fnOf "__init__" "Rounds.__init__" (defArgs s_Rounds_init) (defBody s_Rounds_init) (defScope s_Rounds_init) .none kV_Rounds_init dc_Rounds_init pm_Rounds_init an_Rounds_init cd_Rounds_init ct_Rounds_init), sl_Rounds_init⟩)
    (c_Rounds_init : PySem.W.codeIn K cd_Rounds_init "Rounds.__init__" = true) (k_Rounds_init : PySem.W.keepIn K (.ref f_Rounds_init) = true)
    (i_Rounds_init : PySem.W.isFn K (.ref f_Rounds_init) = true)
    (a_q_odd_thing : PySem.W.nsIn K mainGlobals "_law_odd_thing" = some (some (.ref f_q_odd_thing)))
    (l_q_odd_thing : K.lookup f_q_odd_thing = some ⟨oc_q_odd_thing, od_q_odd_thing, .func (PySem.W.fnOf "_law_odd_thing" "_law_odd_thing" (defArgs s_q_odd_thing) (defBody s_q_odd_thing) (defScope s_q_odd_thing) .none kV_q_odd_thing dc_q_odd_thing pm_q_odd_thing an_q_odd_thing cd_q_odd_thing ct_q_odd_thing), sl_q_odd_thing⟩)
    (c_q_odd_thing : PySem.W.codeIn K cd_q_odd_thing "_law_odd_thing" = true) (k_q_odd_thing : PySem.W.keepIn K (.ref f_q_odd_thing) = true)
    (a_NoRelabeling_init : PySem.W.findIn K (.ref C_NoRelabeling) "__init__" = some (some (.ref f_NoRelabeling_init)))
    (l_NoRelabeling_init : K.lookup f_NoRelabeling_init = some ⟨oc_NoRelabeling_init, od_NoRelabeling_init, .func (PySem.W.fnOf "__init__" "NoRelabeling.__init__" (defArgs s_NoRelabeling_init) (defBody s_NoRelabeling_init) (defScope s_NoRelabeling_init) .none kV_NoRelabeling_init dc_NoRelabeling_init pm_NoRelabeling_init an_NoRelabeling_init cd_NoRelabeling_init ct_NoRelabeling_init), sl_NoRelabeling_init⟩)
    (c_NoRelabeling_init : PySem.W.codeIn K cd_NoRelabeling_init "NoRelabeling.__init__" = true) (k_NoRelabeling_init : PySem.W.keepIn K (.ref f_NoRelabeling_init) = true)
    (a_labels_of : PySem.W.nsIn K mainGlobals "labels_of" = some (some (.ref f_labels_of)))
    (l_labels_of : K.lookup f_labels_of = some ⟨oc_labels_of, od_labels_of, .func (PySem.W.fnOf "labels_of" "labels_of" (defArgs s_labels_of) (defBody s_labels_of) (defScope s_labels_of) .none kV_labels_of dc_labels_of pm_labels_of an_labels_of cd_labels_of ct_labels_of), sl_labels_of⟩)
    (c_labels_of : PySem.W.codeIn K cd_labels_of "labels_of" = true) (k_labels_of : PySem.W.keepIn K (.ref f_labels_of) = true)
    (a_Table_carries : PySem.W.findIn K (.ref C_Table) "carries" = some (some (.ref f_Table_carries)))
    (l_Table_carries : K.lookup f_Table_carries = some ⟨oc_Table_carries, od_Table_carries, .func (PySem.W.fnOf "carries" "Table.carries" (defArgs s_Table_carries) (defBody s_Table_carries) (defScope s_Table_carries) .none kV_Table_carries dc_Table_carries pm_Table_carries an_Table_carries cd_Table_carries ct_Table_carries), sl_Table_carries⟩)
    (c_Table_carries : PySem.W.codeIn K cd_Table_carries "Table.carries" = true) (k_Table_carries : PySem.W.keepIn K (.ref f_Table_carries) = true)
    (i_Table_carries : PySem.W.isFn K (.ref f_Table_carries) = true)
    (a_Group_look_at : PySem.W.findIn K (.ref C_Group) "look_at" = some (some (.ref f_Group_look_at)))
    (l_Group_look_at : K.lookup f_Group_look_at = some ⟨oc_Group_look_at, od_Group_look_at, .func (PySem.W.fnOf "look_at" "Group.look_at" (defArgs s_Group_look_at) (defBody s_Group_look_at) (defScope s_Group_look_at) .none kV_Group_look_at dc_Group_look_at pm_Group_look_at an_Group_look_at cd_Group_look_at ct_Group_look_at), sl_Group_look_at⟩)
    (c_Group_look_at : PySem.W.codeIn K cd_Group_look_at "Group.look_at" = true) (k_Group_look_at : PySem.W.keepIn K (.ref f_Group_look_at) = true)
    (i_Group_look_at : PySem.W.isFn K (.ref f_Group_look_at) = true)
    (a_Rounds_put : PySem.W.findIn K (.ref C_Rounds) "put" = some (some (.ref f_Rounds_put)))
    (l_Rounds_put : K.lookup f_Rounds_put = some ⟨oc_Rounds_put, od_Rounds_put, .func (PySem.W.fnOf "put" "Rounds.put" (defArgs s_Rounds_put) (defBody s_Rounds_put) (defScope s_Rounds_put) .none kV_Rounds_put dc_Rounds_put pm_Rounds_put an_Rounds_put cd_Rounds_put ct_Rounds_put), sl_Rounds_put⟩)
    (c_Rounds_put : PySem.W.codeIn K cd_Rounds_put "Rounds.put" = true) (k_Rounds_put : PySem.W.keepIn K (.ref f_Rounds_put) = true)
    (i_Rounds_put : PySem.W.isFn K (.ref f_Rounds_put) = true)
    (a_Group_added : PySem.W.findIn K (.ref C_Group) "added" = some (some (.ref f_Group_added)))
    (l_Group_added : K.lookup f_Group_added = some ⟨oc_Group_added, od_Group_added, .func (PySem.W.fnOf "added" "Group.added" (defArgs s_Group_added) (defBody s_Group_added) (defScope s_Group_added) .none kV_Group_added dc_Group_added pm_Group_added an_Group_added cd_Group_added ct_Group_added), sl_Group_added⟩)
    (c_Group_added : PySem.W.codeIn K cd_Group_added "Group.added" = true) (k_Group_added : PySem.W.keepIn K (.ref f_Group_added) = true)
    (i_Group_added : PySem.W.isFn K (.ref f_Group_added) = true)
    (a_Rounds_backed : PySem.W.findIn K (.ref C_Rounds) "backed" = some (some (.ref f_Rounds_backed)))
    (l_Rounds_backed : K.lookup f_Rounds_backed = some ⟨oc_Rounds_backed, od_Rounds_backed, .func (PySem.W.fnOf "backed" "Rounds.backed" (defArgs s_Rounds_backed) (defBody s_Rounds_backed) (defScope s_Rounds_backed) .none kV_Rounds_backed dc_Rounds_backed pm_Rounds_backed an_Rounds_backed cd_Rounds_backed ct_Rounds_backed), sl_Rounds_backed⟩)
    (c_Rounds_backed : PySem.W.codeIn K cd_Rounds_backed "Rounds.backed" = true) (k_Rounds_backed : PySem.W.keepIn K (.ref f_Rounds_backed) = true)
    (i_Rounds_backed : PySem.W.isFn K (.ref f_Rounds_backed) = true)
    (a_Group_back : PySem.W.findIn K (.ref C_Group) "back" = some (some (.ref f_Group_back)))
    (l_Group_back : K.lookup f_Group_back = some ⟨oc_Group_back, od_Group_back, .func (PySem.W.fnOf "back" "Group.back" (defArgs s_Group_back) (defBody s_Group_back) (defScope s_Group_back) .none kV_Group_back dc_Group_back pm_Group_back an_Group_back cd_Group_back ct_Group_back), sl_Group_back⟩)
    (c_Group_back : PySem.W.codeIn K cd_Group_back "Group.back" = true) (k_Group_back : PySem.W.keepIn K (.ref f_Group_back) = true)
    (i_Group_back : PySem.W.isFn K (.ref f_Group_back) = true)
    (a_own_carry : PySem.W.nsIn K mainGlobals "own_carry" = some (some (.ref f_own_carry)))
    (l_own_carry : K.lookup f_own_carry = some ⟨oc_own_carry, od_own_carry, .func (PySem.W.fnOf "own_carry" "own_carry" (defArgs s_own_carry) (defBody s_own_carry) (defScope s_own_carry) .none kV_own_carry dc_own_carry pm_own_carry an_own_carry cd_own_carry ct_own_carry), sl_own_carry⟩)
    (c_own_carry : PySem.W.codeIn K cd_own_carry "own_carry" = true) (k_own_carry : PySem.W.keepIn K (.ref f_own_carry) = true)
    (a_changed : PySem.W.nsIn K mainGlobals "changed" = some (some (.ref f_changed)))
    (l_changed : K.lookup f_changed = some ⟨oc_changed, od_changed, .func (PySem.W.fnOf "changed" "changed" (defArgs s_changed) (defBody s_changed) (defScope s_changed) .none kV_changed dc_changed pm_changed an_changed cd_changed ct_changed), sl_changed⟩)
    (c_changed : PySem.W.codeIn K cd_changed "changed" = true) (k_changed : PySem.W.keepIn K (.ref f_changed) = true)
    (a_q_lacks : PySem.W.nsIn K mainGlobals "_law_lacks" = some (some (.ref f_q_lacks)))
    (l_q_lacks : K.lookup f_q_lacks = some ⟨oc_q_lacks, od_q_lacks, .func (PySem.W.fnOf "_law_lacks" "_law_lacks" (defArgs s_q_lacks) (defBody s_q_lacks) (defScope s_q_lacks) .none kV_q_lacks dc_q_lacks pm_q_lacks an_q_lacks cd_q_lacks ct_q_lacks), sl_q_lacks⟩)
    (c_q_lacks : PySem.W.codeIn K cd_q_lacks "_law_lacks" = true) (k_q_lacks : PySem.W.keepIn K (.ref f_q_lacks) = true)
    (a_q_whole : PySem.W.nsIn K mainGlobals "_law_whole" = some (some (.ref f_q_whole)))
    (l_q_whole : K.lookup f_q_whole = some ⟨oc_q_whole, od_q_whole, .func (PySem.W.fnOf "_law_whole" "_law_whole" (defArgs s_q_whole) (defBody s_q_whole) (defScope s_q_whole) .none kV_q_whole dc_q_whole pm_q_whole an_q_whole cd_q_whole ct_q_whole), sl_q_whole⟩)
    (c_q_whole : PySem.W.codeIn K cd_q_whole "_law_whole" = true) (k_q_whole : PySem.W.keepIn K (.ref f_q_whole) = true)
    (a_q_are : PySem.W.nsIn K mainGlobals "_law_are" = some (some (.ref f_q_are)))
    (l_q_are : K.lookup f_q_are = some ⟨oc_q_are, od_q_are, .func (PySem.W.fnOf "_law_are" "_law_are" (defArgs s_q_are) (defBody s_q_are) (defScope s_q_are) .none kV_q_are dc_q_are pm_q_are an_q_are cd_q_are ct_q_are), sl_q_are⟩)
    (c_q_are : PySem.W.codeIn K cd_q_are "_law_are" = true) (k_q_are : PySem.W.keepIn K (.ref f_q_are) = true)
    (a_q_table_is : PySem.W.nsIn K mainGlobals "_law_table_is" = some (some (.ref f_q_table_is)))
    (l_q_table_is : K.lookup f_q_table_is = some ⟨oc_q_table_is, od_q_table_is, .func (PySem.W.fnOf "_law_table_is" "_law_table_is" (defArgs s_q_table_is) (defBody s_q_table_is) (defScope s_q_table_is) .none kV_q_table_is dc_q_table_is pm_q_table_is an_q_table_is cd_q_table_is ct_q_table_is), sl_q_table_is⟩)
    (c_q_table_is : PySem.W.codeIn K cd_q_table_is "_law_table_is" = true) (k_q_table_is : PySem.W.keepIn K (.ref f_q_table_is) = true)
    (a_law : PySem.W.nsIn K mainGlobals "law" = some (some (.ref f_law)))
    (l_law : K.lookup f_law = some ⟨oc_law, od_law, .func (PySem.W.fnOf "law" "law" (defArgs s_law) (defBody s_law) (defScope s_law) .none kV_law dc_law pm_law an_law cd_law ct_law), sl_law⟩)
    (c_law : PySem.W.codeIn K cd_law "law" = true) (k_law : PySem.W.keepIn K (.ref f_law) = true)
    (z_len : PySem.W.nsIn K mainGlobals "len" = some none)
    (z_range : PySem.W.nsIn K mainGlobals "range" = some none)
    (z_tuple : PySem.W.nsIn K mainGlobals "tuple" = some none)
    (z_zip : PySem.W.nsIn K mainGlobals "zip" = some none)
    (fl_rounds : flB K "rounds" [(0, C_Rounds)] = true)
    (z_MOST_LOWER : PySem.W.nsIn K mainGlobals "MOST_LOWER" = some (some (.int (16) t_MOST_LOWER)))
    (ob_NoLower : e0B K C_NoLower = true)
    (z_isinstance : PySem.W.nsIn K mainGlobals "isinstance" = some none)
    (z_MOST_UPPER : PySem.W.nsIn K mainGlobals "MOST_UPPER" = some (some (.int (9) t_MOST_UPPER)))
    (ob_NoUpper : e0B K C_NoUpper = true)
    (fl_lower : flB K "lower" [(2, C_Table)] = true)
    (fl_upper : flB K "upper" [(2, C_Table)] = true)
    (fl_kept : flB K "kept" [(2, C_Table)] = true)
    (z_int : PySem.W.nsIn K mainGlobals "int" = some none)
    (z_bool : PySem.W.nsIn K mainGlobals "bool" = some none)
    (xL_NoCarry : K.lookup C_NoCarry = some (excClassObj nm_NoCarry q_NoCarry C_NoCarry NA_NoCarry bs_NoCarry bm_NoCarry true sn_NoCarry sub_NoCarry ab_NoCarry col_NoCarry dd_NoCarry k0_NoCarry k1_NoCarry k2_NoCarry k3_NoCarry k5_NoCarry "ValueError.__new__")) (rv_NoCarry : PySem.HandSPX.refsVE bm_NoCarry = true) (ob_NoCarry : oexB K C_NoCarry = true) (tI_NoCarry : PySem.W.typeIn K (.ref f_NoCarry_init) = some (.type "function"))
    (no_NoCarry_y : PySem.W.findIn K (.ref C_NoCarry) "y" = some none)
    (no_NoCarry_x : PySem.W.findIn K (.ref C_NoCarry) "x" = some none)
    (z_list : PySem.W.nsIn K mainGlobals "list" = some none)
    (z_MOST_ROUNDS : PySem.W.nsIn K mainGlobals "MOST_ROUNDS" = some (some (.int (7) t_MOST_ROUNDS)))
    (z_MOST_ELEMENTS : PySem.W.nsIn K mainGlobals "MOST_ELEMENTS" = some (some (.int (144) t_MOST_ELEMENTS)))
    (ob_NoRounds : e0B K C_NoRounds = true)
    (z_dict : PySem.W.nsIn K mainGlobals "dict" = some none)
    (xL_NoRelabeling : K.lookup C_NoRelabeling = some (excClassObj nm_NoRelabeling q_NoRelabeling C_NoRelabeling NA_NoRelabeling bs_NoRelabeling bm_NoRelabeling true sn_NoRelabeling sub_NoRelabeling ab_NoRelabeling col_NoRelabeling dd_NoRelabeling k0_NoRelabeling k1_NoRelabeling k2_NoRelabeling k3_NoRelabeling k5_NoRelabeling "ValueError.__new__")) (rv_NoRelabeling : PySem.HandSPX.refsVE bm_NoRelabeling = true) (ob_NoRelabeling : oexB K C_NoRelabeling = true) (tI_NoRelabeling : PySem.W.typeIn K (.ref f_NoRelabeling_init) = some (.type "function"))
    (no_NoRelabeling_x : PySem.W.findIn K (.ref C_NoRelabeling) "x" = some none)
    (ob_NoElement : e0B K C_NoElement = true)
    (xl_x : xlB K "x" [(23, C_NoCarry), (26, C_NoRelabeling)] = true)
    (z_min : PySem.W.nsIn K mainGlobals "min" = some none)
    (z_all : PySem.W.nsIn K mainGlobals "all" = some none)
    (hIs : isTab K [(10, C_CarryError), (11, C_NoRounds), (12, C_NoElement), (13, C_NoLower), (14, C_NoUpper), (23, C_NoCarry), (26, C_NoRelabeling), (0, C_Rounds), (2, C_Table)] [(0, C_Rounds), (2, C_Table), (26, C_NoRelabeling)] = true)
    (hCt : ctB K [(10, C_CarryError), (11, C_NoRounds), (12, C_NoElement), (13, C_NoLower), (14, C_NoUpper), (23, C_NoCarry), (26, C_NoRelabeling)] [(10, C_CarryError)] = true)
    (mk_Rounds : PySem.W.makesIn K C_Rounds = true) (kc_Rounds : PySem.W.keepIn K (.ref C_Rounds) = true)
    (mk_Table : PySem.W.makesIn K C_Table = true) (kc_Table : PySem.W.keepIn K (.ref C_Table) = true)
    (am_Rounds_size : PySem.W.findIn K (.ref C_Rounds) "size" = some (some (.ref f_Group_size)))
    (am_Rounds_look_at : PySem.W.findIn K (.ref C_Rounds) "look_at" = some (some (.ref f_Group_look_at)))
    (am_Rounds_added : PySem.W.findIn K (.ref C_Rounds) "added" = some (some (.ref f_Group_added)))
    (am_Rounds_back : PySem.W.findIn K (.ref C_Rounds) "back" = some (some (.ref f_Group_back)))
    (oB : ([C_Rounds, C_Table] : List Addr).all (objB K) = true)
    : LawT P w K q 8 "_law_script" mg fa d_law := by
  have e := hfa.symm.trans (PySem.W.mg_of X G a_law)
  cases e
  letI tn : Tn := ⟨fun P => "", []⟩
  have m_CarryError : mg (cname 10) = some (.ref C_CarryError) := PySem.W.mg_of X G aC_CarryError
  have ca_CarryError : (⟨P, w, K, mg⟩ : GC).ca 10 = C_CarryError := ca_of (G := ⟨P, w, K, mg⟩) m_CarryError
  have m_NoRounds : mg (cname 11) = some (.ref C_NoRounds) := PySem.W.mg_of X G aC_NoRounds
  have ca_NoRounds : (⟨P, w, K, mg⟩ : GC).ca 11 = C_NoRounds := ca_of (G := ⟨P, w, K, mg⟩) m_NoRounds
  have m_NoElement : mg (cname 12) = some (.ref C_NoElement) := PySem.W.mg_of X G aC_NoElement
  have ca_NoElement : (⟨P, w, K, mg⟩ : GC).ca 12 = C_NoElement := ca_of (G := ⟨P, w, K, mg⟩) m_NoElement
  have m_NoLower : mg (cname 13) = some (.ref C_NoLower) := PySem.W.mg_of X G aC_NoLower
  have ca_NoLower : (⟨P, w, K, mg⟩ : GC).ca 13 = C_NoLower := ca_of (G := ⟨P, w, K, mg⟩) m_NoLower
  have m_NoUpper : mg (cname 14) = some (.ref C_NoUpper) := PySem.W.mg_of X G aC_NoUpper
  have ca_NoUpper : (⟨P, w, K, mg⟩ : GC).ca 14 = C_NoUpper := ca_of (G := ⟨P, w, K, mg⟩) m_NoUpper
  have m_NoCarry : mg (cname 23) = some (.ref C_NoCarry) := PySem.W.mg_of X G aC_NoCarry
  have ca_NoCarry : (⟨P, w, K, mg⟩ : GC).ca 23 = C_NoCarry := ca_of (G := ⟨P, w, K, mg⟩) m_NoCarry
  have m_NoRelabeling : mg (cname 26) = some (.ref C_NoRelabeling) := PySem.W.mg_of X G aC_NoRelabeling
  have ca_NoRelabeling : (⟨P, w, K, mg⟩ : GC).ca 26 = C_NoRelabeling := ca_of (G := ⟨P, w, K, mg⟩) m_NoRelabeling
  have m_Group : mg (cname 5) = some (.ref C_Group) := PySem.W.mg_of X G aC_Group
  have ca_Group : (⟨P, w, K, mg⟩ : GC).ca 5 = C_Group := ca_of (G := ⟨P, w, K, mg⟩) m_Group
  have m_Rounds : mg (cname 0) = some (.ref C_Rounds) := PySem.W.mg_of X G aC_Rounds
  have ca_Rounds : (⟨P, w, K, mg⟩ : GC).ca 0 = C_Rounds := ca_of (G := ⟨P, w, K, mg⟩) m_Rounds
  have m_Table : mg (cname 2) = some (.ref C_Table) := PySem.W.mg_of X G aC_Table
  have ca_Table : (⟨P, w, K, mg⟩ : GC).ca 2 = C_Table := ca_of (G := ⟨P, w, K, mg⟩) m_Table
  have F_q_rounds := fun_mk (st := s_q_rounds) l_q_rounds c_q_rounds k_q_rounds
  have B_q_rounds := F_q_rounds.binds (ps := ["_law_cell_here", "_law_many"]) fun _ _ _ _ _ _ us hl => match us, hl with | [_, _], _ => rfl
  have F_q_cell := fun_mk (st := s_q_cell) l_q_cell c_q_cell k_q_cell
  have B_q_cell := F_q_cell.binds (ps := ["_law_script", "_law_k"]) fun _ _ _ _ _ _ us hl => match us, hl with | [_, _], _ => rfl
  have F_q_all := fun_mk (st := s_q_all) l_q_all c_q_all k_q_all
  have B_q_all := F_q_all.binds (ps := ["_law_rounds_here"]) fun _ _ _ _ _ _ us hl => match us, hl with | [_], _ => rfl
  have F_q_drawn := fun_mk (st := s_q_drawn) l_q_drawn c_q_drawn k_q_drawn
  have B_q_drawn := F_q_drawn.binds (ps := ["_law_lower", "_law_cell_here"]) fun _ _ _ _ _ _ us hl => match us, hl with | [_, _], _ => rfl
  have F_q_size := fun_mk (st := s_q_size) l_q_size c_q_size k_q_size
  have B_q_size := F_q_size.binds (ps := ["_law_rounds_here"]) fun _ _ _ _ _ _ us hl => match us, hl with | [_], _ => rfl
  have F_q_any := fun_mk (st := s_q_any) l_q_any c_q_any k_q_any
  have B_q_any := F_q_any.binds (ps := ["_law_lower", "_law_upper", "_law_cell_here"]) fun _ _ _ _ _ _ us hl => match us, hl with | [_, _, _], _ => rfl
  have F_q_shared := fun_mk (st := s_q_shared) l_q_shared c_q_shared k_q_shared
  have B_q_shared := F_q_shared.binds (ps := ["_law_one", "_law_other"]) fun _ _ _ _ _ _ us hl => match us, hl with | [_, _], _ => rfl
  have F_q_odd := fun_mk (st := s_q_odd) l_q_odd c_q_odd k_q_odd
  have B_q_odd := F_q_odd.binds (ps := ["_law_lower", "_law_n", "_law_m", "_law_cell_here"]) fun _ _ _ _ _ _ us hl => match us, hl with | [_, _, _, _], _ => rfl
  have F_q_parts := fun_mk (st := s_q_parts) l_q_parts c_q_parts k_q_parts
  have B_q_parts := F_q_parts.binds (ps := ["_law_lower", "_law_upper", "_law_cell_here"]) fun _ _ _ _ _ _ us hl => match us, hl with | [_, _, _], _ => rfl
  have F_q_sum := fun_mk (st := s_q_sum) l_q_sum c_q_sum k_q_sum
  have B_q_sum := F_q_sum.binds (ps := ["_law_rounds_here", "_law_x", "_law_y"]) fun _ _ _ _ _ _ us hl => match us, hl with | [_, _, _], _ => rfl
  have F_q_times := fun_mk (st := s_q_times) l_q_times c_q_times k_q_times
  have B_q_times := F_q_times.binds (ps := ["_law_rounds_here", "_law_n", "_law_x"]) fun _ _ _ _ _ _ us hl => match us, hl with | [_, _, _], _ => rfl
  have F_q_carry := fun_mk (st := s_q_carry) l_q_carry c_q_carry k_q_carry
  have B_q_carry := F_q_carry.binds (ps := ["_law_lower", "_law_upper", "_law_parts_here", "_law_x", "_law_y"]) fun _ _ _ _ _ _ us hl => match us, hl with | [_, _, _, _, _], _ => rfl
  have F_q_own := fun_mk (st := s_q_own) l_q_own c_q_own k_q_own
  have B_q_own := F_q_own.binds (ps := ["_law_lower", "_law_upper", "_law_h", "_law_x", "_law_y"]) fun _ _ _ _ _ _ us hl => match us, hl with | [_, _, _, _, _], _ => rfl
  have F_q_carries := fun_mk (st := s_q_carries) l_q_carries c_q_carries k_q_carries
  have B_q_carries := F_q_carries.binds (ps := ["_law_lower", "_law_upper", "_law_parts_here", "_law_h"]) fun _ _ _ _ _ _ us hl => match us, hl with | [_, _, _, _], _ => rfl
  have F_q_labels := fun_mk (st := s_q_labels) l_q_labels c_q_labels k_q_labels
  have B_q_labels := F_q_labels.binds (ps := ["_law_lower", "_law_upper", "_law_cell_here"]) fun _ _ _ _ _ _ us hl => match us, hl with | [_, _, _], _ => rfl
  have F_Rounds_members := fun_mk (st := s_Rounds_members) l_Rounds_members c_Rounds_members k_Rounds_members
  have B_Rounds_members := F_Rounds_members.binds (ps := ["self"]) fun _ _ _ _ _ _ us hl => match us, hl with | [_], _ => rfl
  have F_Group_size := fun_mk (st := s_Group_size) l_Group_size c_Group_size k_Group_size
  have B_Group_size := F_Group_size.binds (ps := ["self"]) fun _ _ _ _ _ _ us hl => match us, hl with | [_], _ => rfl
  have F_Rounds_is_even := fun_mk (st := s_Rounds_is_even) l_Rounds_is_even c_Rounds_is_even k_Rounds_is_even
  have B_Rounds_is_even := F_Rounds_is_even.binds (ps := ["self"]) fun _ _ _ _ _ _ us hl => match us, hl with | [_], _ => rfl
  have F_look_at_groups := fun_mk (st := s_look_at_groups) l_look_at_groups c_look_at_groups k_look_at_groups
  have B_look_at_groups := F_look_at_groups.binds (ps := ["lower", "upper"]) fun _ _ _ _ _ _ us hl => match us, hl with | [_, _], _ => rfl
  have F_is_whole := fun_mk (st := s_is_whole) l_is_whole c_is_whole k_is_whole
  have B_is_whole := F_is_whole.binds (ps := ["thing"]) fun _ _ _ _ _ _ us hl => match us, hl with | [_], _ => rfl
  have F_Rounds_has := fun_mk (st := s_Rounds_has) l_Rounds_has c_Rounds_has k_Rounds_has
  have B_Rounds_has := F_Rounds_has.binds (ps := ["self", "thing"]) fun _ _ _ _ _ _ us hl => match us, hl with | [_, _], _ => rfl
  have F_NoCarry_init := fun_mk (st := s_NoCarry_init) l_NoCarry_init c_NoCarry_init k_NoCarry_init
  have B_NoCarry_init := F_NoCarry_init.binds (ps := ["self", "x", "y"]) fun _ _ _ _ _ _ us hl => match us, hl with | [_, _, _], _ => rfl
  have F_Table_init := fun_mk (st := s_Table_init) l_Table_init c_Table_init k_Table_init
  have B_Table_init := F_Table_init.binds (ps := ["self", "lower", "upper", "carries"]) fun _ _ _ _ _ _ us hl => match us, hl with | [_, _, _, _], _ => rfl
  have F_are_rounds := fun_mk (st := s_are_rounds) l_are_rounds c_are_rounds k_are_rounds
  have B_are_rounds := F_are_rounds.binds (ps := ["thing"]) fun _ _ _ _ _ _ us hl => match us, hl with | [_], _ => rfl
  have F_Rounds_init := fun_mk (st := s_Rounds_init) l_Rounds_init c_Rounds_init k_Rounds_init
  have B_Rounds_init := F_Rounds_init.binds (ps := ["self", "rounds"]) fun _ _ _ _ _ _ us hl => match us, hl with | [_, _], _ => rfl
  have F_q_odd_thing := fun_mk (st := s_q_odd_thing) l_q_odd_thing c_q_odd_thing k_q_odd_thing
  have B_q_odd_thing := F_q_odd_thing.binds (ps := ["_law_lower", "_law_cell_here"]) fun _ _ _ _ _ _ us hl => match us, hl with | [_, _], _ => rfl
  have F_NoRelabeling_init := fun_mk (st := s_NoRelabeling_init) l_NoRelabeling_init c_NoRelabeling_init k_NoRelabeling_init
  have B_NoRelabeling_init := F_NoRelabeling_init.binds (ps := ["self", "x"]) fun _ _ _ _ _ _ us hl => match us, hl with | [_, _], _ => rfl
  have F_labels_of := fun_mk (st := s_labels_of) l_labels_of c_labels_of k_labels_of
  have B_labels_of := F_labels_of.binds (ps := ["lower", "upper", "h"]) fun _ _ _ _ _ _ us hl => match us, hl with | [_, _, _], _ => rfl
  have F_Table_carries := fun_mk (st := s_Table_carries) l_Table_carries c_Table_carries k_Table_carries
  have B_Table_carries := F_Table_carries.binds (ps := ["self"]) fun _ _ _ _ _ _ us hl => match us, hl with | [_], _ => rfl
  have F_Group_look_at := fun_mk (st := s_Group_look_at) l_Group_look_at c_Group_look_at k_Group_look_at
  have B_Group_look_at := F_Group_look_at.binds (ps := ["self", "thing"]) fun _ _ _ _ _ _ us hl => match us, hl with | [_, _], _ => rfl
  have F_Rounds_put := fun_mk (st := s_Rounds_put) l_Rounds_put c_Rounds_put k_Rounds_put
  have B_Rounds_put := F_Rounds_put.binds (ps := ["self", "x", "y"]) fun _ _ _ _ _ _ us hl => match us, hl with | [_, _, _], _ => rfl
  have F_Group_added := fun_mk (st := s_Group_added) l_Group_added c_Group_added k_Group_added
  have B_Group_added := F_Group_added.binds (ps := ["self", "x", "y"]) fun _ _ _ _ _ _ us hl => match us, hl with | [_, _, _], _ => rfl
  have F_Rounds_backed := fun_mk (st := s_Rounds_backed) l_Rounds_backed c_Rounds_backed k_Rounds_backed
  have B_Rounds_backed := F_Rounds_backed.binds (ps := ["self", "x"]) fun _ _ _ _ _ _ us hl => match us, hl with | [_, _], _ => rfl
  have F_Group_back := fun_mk (st := s_Group_back) l_Group_back c_Group_back k_Group_back
  have B_Group_back := F_Group_back.binds (ps := ["self", "x"]) fun _ _ _ _ _ _ us hl => match us, hl with | [_, _], _ => rfl
  have F_own_carry := fun_mk (st := s_own_carry) l_own_carry c_own_carry k_own_carry
  have B_own_carry := F_own_carry.binds (ps := ["lower", "upper", "h", "x", "y"]) fun _ _ _ _ _ _ us hl => match us, hl with | [_, _, _, _, _], _ => rfl
  have F_changed := fun_mk (st := s_changed) l_changed c_changed k_changed
  have B_changed := F_changed.binds (ps := ["table", "h"]) fun _ _ _ _ _ _ us hl => match us, hl with | [_, _], _ => rfl
  have F_q_lacks := fun_mk (st := s_q_lacks) l_q_lacks c_q_lacks k_q_lacks
  have B_q_lacks := F_q_lacks.binds (ps := ["_law_table", "_law_h"]) fun _ _ _ _ _ _ us hl => match us, hl with | [_, _], _ => rfl
  have F_q_whole := fun_mk (st := s_q_whole) l_q_whole c_q_whole k_q_whole
  have B_q_whole := F_q_whole.binds (ps := ["_law_thing"]) fun _ _ _ _ _ _ us hl => match us, hl with | [_], _ => rfl
  have F_q_are := fun_mk (st := s_q_are) l_q_are c_q_are k_q_are
  have B_q_are := F_q_are.binds (ps := ["_law_found", "_law_many"]) fun _ _ _ _ _ _ us hl => match us, hl with | [_, _], _ => rfl
  have F_q_table_is := fun_mk (st := s_q_table_is) l_q_table_is c_q_table_is k_q_table_is
  have B_q_table_is := F_q_table_is.binds (ps := ["_law_found", "_law_lower", "_law_upper", "_law_due"]) fun _ _ _ _ _ _ us hl => match us, hl with | [_, _, _, _], _ => rfl
  have F_law := fun_mk (st := s_law) l_law c_law k_law
  refine ⟨tn, PySem.W.fnOf "law" "law" (defArgs s_law) (defBody s_law) (defScope s_law) .none kV_law dc_law pm_law an_law cd_law ct_law, [], rfl, ?_, fun s u => .of_eq rfl, fun base _ _ hTB => ?_⟩
  · intro t ht
    cases ht
  have OB_Rounds := (objB_ok (List.all_eq_true.mp oB C_Rounds (by simp))).cl
  have OB_Table := (objB_ok (List.all_eq_true.mp oB C_Table (by simp))).cl
  have O_NoCarry : OexC K C_NoCarry := oexC_by xL_NoCarry rv_NoCarry ob_NoCarry
  have X_NoCarry : ExMA P w K mg base C_NoCarry 23 := ⟨m_NoCarry, O_NoCarry, f_NoCarry_init, _, _, exc2_ok (pn := "x") (qn := "y") (fn := "x") (gn := "y") F_NoCarry_init ⟨rfl, rfl, rfl, by decide +kernel, rfl, by decide +kernel, by decide +kernel⟩ O_NoCarry no_NoCarry_x no_NoCarry_y (fun X hN hs => pss_cons (ps_ost (pe_var (i := 0) (by rw [hN]; rfl) (by rw [hs]; exact Or.inl rfl)) (pe_var (i := 1) (by rw [hN]; rfl) (by rw [hs]; exact Or.inl rfl))) (pss_one (ps_ost (pe_var (i := 0) (by rw [hN]; rfl) (by rw [hs]; exact Or.inl rfl)) (pe_var (i := 2) (by rw [hN]; rfl) (by rw [hs]; exact Or.inl rfl))))), a_NoCarry_init, tI_NoCarry, B_NoCarry_init⟩
  have O_NoRelabeling : OexC K C_NoRelabeling := oexC_by xL_NoRelabeling rv_NoRelabeling ob_NoRelabeling
  have X_NoRelabeling : ExMA P w K mg base C_NoRelabeling 26 := ⟨m_NoRelabeling, O_NoRelabeling, f_NoRelabeling_init, _, _, exc1_ok (pn := "x") (fn := "x") F_NoRelabeling_init ⟨rfl, rfl, rfl, by decide +kernel, rfl, by decide +kernel, by decide +kernel⟩ O_NoRelabeling no_NoRelabeling_x (fun X hN hs => pss_one (ps_ost (pe_var (i := 0) (by rw [hN]; rfl) (by rw [hs]; exact Or.inl rfl)) (pe_var (i := 1) (by rw [hN]; rfl) (by rw [hs]; exact Or.inl rfl)))), a_NoRelabeling_init, tI_NoRelabeling, B_NoRelabeling_init⟩
  have T : Txt P w K mg base := {
      zz := trivial,
      n_len := PySem.W.mg_none_of X G z_len,
      n_range := PySem.W.mg_none_of X G z_range,
      n_tuple := PySem.W.mg_none_of X G z_tuple,
      n_zip := PySem.W.mg_none_of X G z_zip,
      c_Table := cg_by m_Table,
      f_rounds := fldM_by (of_all (ac_c ca_Rounds ac_n)) fl_rounds,
      g_MOST_LOWER := ⟨_, PySem.W.mg_of X G z_MOST_LOWER⟩,
      c_NoLower := cg_by m_NoLower,
      e_NoLower := by rw [ca_NoLower]; exact exM0_by m_NoLower ob_NoLower,
      n_isinstance := PySem.W.mg_none_of X G z_isinstance,
      c_Rounds := cg_by m_Rounds,
      g_MOST_UPPER := ⟨_, PySem.W.mg_of X G z_MOST_UPPER⟩,
      c_NoUpper := cg_by m_NoUpper,
      e_NoUpper := by rw [ca_NoUpper]; exact exM0_by m_NoUpper ob_NoUpper,
      f_lower := fldM_by (of_all (ac_c ca_Table ac_n)) fl_lower,
      cl_Table_lower := clM_by (of_all (ac_c ca_Table ac_n)) fl_lower (by simp),
      f_upper := fldM_by (of_all (ac_c ca_Table ac_n)) fl_upper,
      cl_Table_upper := clM_by (of_all (ac_c ca_Table ac_n)) fl_upper (by simp),
      f_kept := fldM_by (of_all (ac_c ca_Table ac_n)) fl_kept,
      cl_Table_kept := clM_by (of_all (ac_c ca_Table ac_n)) fl_kept (by simp),
      n_int := PySem.W.mg_none_of X G z_int,
      n_bool := PySem.W.mg_none_of X G z_bool,
      c_NoCarry := cg_by m_NoCarry,
      e_NoCarry := by rw [ca_NoCarry]; exact X_NoCarry,
      n_list := PySem.W.mg_none_of X G z_list,
      g_MOST_ROUNDS := ⟨_, PySem.W.mg_of X G z_MOST_ROUNDS⟩,
      g_MOST_ELEMENTS := ⟨_, PySem.W.mg_of X G z_MOST_ELEMENTS⟩,
      c_NoRounds := cg_by m_NoRounds,
      e_NoRounds := by rw [ca_NoRounds]; exact exM0_by m_NoRounds ob_NoRounds,
      cl_Rounds_rounds := clM_by (of_all (ac_c ca_Rounds ac_n)) fl_rounds (by simp),
      n_dict := PySem.W.mg_none_of X G z_dict,
      c_NoRelabeling := cg_by m_NoRelabeling,
      e_NoRelabeling := by rw [ca_NoRelabeling]; exact X_NoRelabeling,
      c_NoElement := cg_by m_NoElement,
      e_NoElement := by rw [ca_NoElement]; exact exM0_by m_NoElement ob_NoElement,
      c_CarryError := cg_by m_CarryError,
      x_x := fldX_by (of_all (ac_c ca_NoCarry (ac_c ca_NoRelabeling ac_n))) xl_x,
      n_min := PySem.W.mg_none_of X G z_min,
      n_all := PySem.W.mg_none_of X G z_all,
      isM := isM_of (of_all (ac_c ca_CarryError (ac_c ca_NoRounds (ac_c ca_NoElement (ac_c ca_NoLower (ac_c ca_NoUpper (ac_c ca_NoCarry (ac_c ca_NoRelabeling (ac_c ca_Rounds (ac_c ca_Table ac_n)))))))))) (of_all (ac_c ca_Rounds (ac_c ca_Table (ac_c ca_NoRelabeling ac_n)))) hIs,
      ctM := ctM_of (of_all (ac_c ca_CarryError (ac_c ca_NoRounds (ac_c ca_NoElement (ac_c ca_NoLower (ac_c ca_NoUpper (ac_c ca_NoCarry (ac_c ca_NoRelabeling ac_n)))))))) (of_all (ac_c ca_CarryError ac_n)) hCt }
  have G_q_rounds : FnOk P w K mg base (L2N.CX P w) 1 f_q_rounds _ ["_law_cell_here", "_law_many"] (spM ⟨P, w, K, mg⟩ .S d_q_rounds) := fn_ok F_q_rounds sc_q_rounds (fun cdv A outer s H E hr => b_q_rounds T cdv A outer s H E hr)
  have M_q_rounds : FnM P w K mg base 1 "_law_rounds" .S d_q_rounds := ⟨f_q_rounds, _, _, G_q_rounds, PySem.W.mg_of X G a_q_rounds, k_q_rounds, B_q_rounds⟩
  have G_q_cell : FnOk P w K mg base (L2N.CX P w) 1 f_q_cell _ ["_law_script", "_law_k"] (spM ⟨P, w, K, mg⟩ .S d_q_cell) := fn_ok F_q_cell sc_q_cell (fun cdv A outer s H E hr => b_q_cell T cdv A outer s H E hr)
  have M_q_cell : FnM P w K mg base 1 "_law_cell" .S d_q_cell := ⟨f_q_cell, _, _, G_q_cell, PySem.W.mg_of X G a_q_cell, k_q_cell, B_q_cell⟩
  have G_q_all : FnOk P w K mg base (L2N.CX P w) 1 f_q_all _ ["_law_rounds_here"] (spM ⟨P, w, K, mg⟩ .S d_q_all) := fn_ok F_q_all sc_q_all (fun cdv A outer s H E hr => b_q_all T cdv A outer s H E hr)
  have M_q_all : FnM P w K mg base 1 "_law_all" .S d_q_all := ⟨f_q_all, _, _, G_q_all, PySem.W.mg_of X G a_q_all, k_q_all, B_q_all⟩
  have G_q_drawn : FnOk P w K mg base (L2N.CX P w) 1 f_q_drawn _ ["_law_lower", "_law_cell_here"] (spM ⟨P, w, K, mg⟩ .S d_q_drawn) := fn_ok F_q_drawn sc_q_drawn (fun cdv A outer s H E hr => b_q_drawn T cdv A outer s H E hr)
  have M_q_drawn : FnM P w K mg base 1 "_law_drawn" .S d_q_drawn := ⟨f_q_drawn, _, _, G_q_drawn, PySem.W.mg_of X G a_q_drawn, k_q_drawn, B_q_drawn⟩
  have G_q_size : FnOk P w K mg base (L2N.CX P w) 1 f_q_size _ ["_law_rounds_here"] (spM ⟨P, w, K, mg⟩ .S d_q_size) := fn_ok F_q_size sc_q_size (fun cdv A outer s H E hr => b_q_size T cdv A outer s H E hr)
  have M_q_size : FnM P w K mg base 1 "_law_size" .S d_q_size := ⟨f_q_size, _, _, G_q_size, PySem.W.mg_of X G a_q_size, k_q_size, B_q_size⟩
  have G_q_any : FnOk P w K mg base (L2N.CX P w) 2 f_q_any _ ["_law_lower", "_law_upper", "_law_cell_here"] (spM ⟨P, w, K, mg⟩ .S d_q_any) := fn_ok F_q_any sc_q_any (fun cdv A outer s H E hr => b_q_any T M_q_all M_q_drawn M_q_size cdv A outer s H E hr)
  have M_q_any : FnM P w K mg base 2 "_law_any" .S d_q_any := ⟨f_q_any, _, _, G_q_any, PySem.W.mg_of X G a_q_any, k_q_any, B_q_any⟩
  have G_q_shared : FnOk P w K mg base (L2N.CX P w) 1 f_q_shared _ ["_law_one", "_law_other"] (spM ⟨P, w, K, mg⟩ .S d_q_shared) := fn_ok F_q_shared sc_q_shared (fun cdv A outer s H E hr => b_q_shared T cdv A outer s H E hr)
  have M_q_shared : FnM P w K mg base 1 "_law_shared" .S d_q_shared := ⟨f_q_shared, _, _, G_q_shared, PySem.W.mg_of X G a_q_shared, k_q_shared, B_q_shared⟩
  have G_q_odd : FnOk P w K mg base (L2N.CX P w) 2 f_q_odd _ ["_law_lower", "_law_n", "_law_m", "_law_cell_here"] (spM ⟨P, w, K, mg⟩ .S d_q_odd) := fn_ok F_q_odd sc_q_odd (fun cdv A outer s H E hr => b_q_odd T M_q_shared cdv A outer s H E hr)
  have M_q_odd : FnM P w K mg base 2 "_law_odd" .S d_q_odd := ⟨f_q_odd, _, _, G_q_odd, PySem.W.mg_of X G a_q_odd, k_q_odd, B_q_odd⟩
  have G_q_parts : FnOk P w K mg base (L2N.CX P w) 3 f_q_parts _ ["_law_lower", "_law_upper", "_law_cell_here"] (spM ⟨P, w, K, mg⟩ .S d_q_parts) := fn_ok F_q_parts sc_q_parts (fun cdv A outer s H E hr => b_q_parts T M_q_drawn M_q_size M_q_odd cdv A outer s H E hr)
  have M_q_parts : FnM P w K mg base 3 "_law_parts" .S d_q_parts := ⟨f_q_parts, _, _, G_q_parts, PySem.W.mg_of X G a_q_parts, k_q_parts, B_q_parts⟩
  have G_q_sum : FnOk P w K mg base (L2N.CX P w) 1 f_q_sum _ ["_law_rounds_here", "_law_x", "_law_y"] (spM ⟨P, w, K, mg⟩ .S d_q_sum) := fn_ok F_q_sum sc_q_sum (fun cdv A outer s H E hr => b_q_sum T cdv A outer s H E hr)
  have M_q_sum : FnM P w K mg base 1 "_law_sum" .S d_q_sum := ⟨f_q_sum, _, _, G_q_sum, PySem.W.mg_of X G a_q_sum, k_q_sum, B_q_sum⟩
  have G_q_times : FnOk P w K mg base (L2N.CX P w) 1 f_q_times _ ["_law_rounds_here", "_law_n", "_law_x"] (spM ⟨P, w, K, mg⟩ .S d_q_times) := fn_ok F_q_times sc_q_times (fun cdv A outer s H E hr => b_q_times T cdv A outer s H E hr)
  have M_q_times : FnM P w K mg base 1 "_law_times" .S d_q_times := ⟨f_q_times, _, _, G_q_times, PySem.W.mg_of X G a_q_times, k_q_times, B_q_times⟩
  have G_q_carry : FnOk P w K mg base (L2N.CX P w) 2 f_q_carry _ ["_law_lower", "_law_upper", "_law_parts_here", "_law_x", "_law_y"] (spM ⟨P, w, K, mg⟩ .S d_q_carry) := fn_ok F_q_carry sc_q_carry (fun cdv A outer s H E hr => b_q_carry T M_q_sum M_q_times cdv A outer s H E hr)
  have M_q_carry : FnM P w K mg base 2 "_law_carry" .S d_q_carry := ⟨f_q_carry, _, _, G_q_carry, PySem.W.mg_of X G a_q_carry, k_q_carry, B_q_carry⟩
  have G_q_own : FnOk P w K mg base (L2N.CX P w) 2 f_q_own _ ["_law_lower", "_law_upper", "_law_h", "_law_x", "_law_y"] (spM ⟨P, w, K, mg⟩ .S d_q_own) := fn_ok F_q_own sc_q_own (fun cdv A outer s H E hr => b_q_own T M_q_times M_q_sum cdv A outer s H E hr)
  have M_q_own : FnM P w K mg base 2 "_law_own" .S d_q_own := ⟨f_q_own, _, _, G_q_own, PySem.W.mg_of X G a_q_own, k_q_own, B_q_own⟩
  have G_q_carries : FnOk P w K mg base (L2N.CX P w) 3 f_q_carries _ ["_law_lower", "_law_upper", "_law_parts_here", "_law_h"] (spM ⟨P, w, K, mg⟩ .S d_q_carries) := fn_ok F_q_carries sc_q_carries (fun cdv A outer s H E hr => b_q_carries T M_q_all M_q_carry M_q_sum M_q_own cdv A outer s H E hr)
  have M_q_carries : FnM P w K mg base 3 "_law_carries" .S d_q_carries := ⟨f_q_carries, _, _, G_q_carries, PySem.W.mg_of X G a_q_carries, k_q_carries, B_q_carries⟩
  have G_q_labels : FnOk P w K mg base (L2N.CX P w) 2 f_q_labels _ ["_law_lower", "_law_upper", "_law_cell_here"] (spM ⟨P, w, K, mg⟩ (.O .flat) d_q_labels) := fn_okO F_q_labels sc_q_labels (fun cdv A outer s H E hr => b_q_labels T M_q_all M_q_drawn M_q_size cdv A outer s H E hr)
  have M_q_labels : FnM P w K mg base 2 "_law_labels" (.O .flat) d_q_labels := ⟨f_q_labels, _, _, G_q_labels, PySem.W.mg_of X G a_q_labels, k_q_labels, B_q_labels⟩
  have G_Rounds_members : FnOk P w K mg base (L2N.CX P w) 1 f_Rounds_members _ ["self"] (spM ⟨P, w, K, mg⟩ .S d_Rounds_members) := fn_ok F_Rounds_members sc_Rounds_members (fun cdv A outer s H E hr => b_Rounds_members T cdv A outer s H E hr)
  have MT_members : ∀ c g, mt_members c = some g → MtM P w K mg base 1 "members" c .S g :=
    mtC ⟨⟨f_Rounds_members, _, _, G_Rounds_members.mono (by decide), meth_ca ca_Rounds ⟨a_Rounds_members, i_Rounds_members, k_Rounds_members⟩, B_Rounds_members⟩, cls_ca ca_Rounds OB_Rounds, by decide +kernel⟩ <|
    mtN
  have G_Group_size : FnOk P w K mg base (L2N.CX P w) 2 f_Group_size _ ["self"] (spM ⟨P, w, K, mg⟩ .S d_Group_size) := fn_ok F_Group_size sc_Group_size (fun cdv A outer s H E hr => b_Group_size T MT_members cdv A outer s H E hr)
  have MT_size : ∀ c g, mt_size c = some g → MtM P w K mg base 2 "size" c .S g :=
    mtC ⟨⟨f_Group_size, _, _, G_Group_size.mono (by decide), meth_ca ca_Rounds ⟨am_Rounds_size, i_Group_size, k_Group_size⟩, B_Group_size⟩, cls_ca ca_Rounds OB_Rounds, by decide +kernel⟩ <|
    mtN
  have G_Rounds_is_even : FnOk P w K mg base (L2N.CX P w) 1 f_Rounds_is_even _ ["self"] (spM ⟨P, w, K, mg⟩ .S d_Rounds_is_even) := fn_ok F_Rounds_is_even sc_Rounds_is_even (fun cdv A outer s H E hr => b_Rounds_is_even T cdv A outer s H E hr)
  have MT_is_even : ∀ c g, mt_is_even c = some g → MtM P w K mg base 1 "is_even" c .S g :=
    mtC ⟨⟨f_Rounds_is_even, _, _, G_Rounds_is_even.mono (by decide), meth_ca ca_Rounds ⟨a_Rounds_is_even, i_Rounds_is_even, k_Rounds_is_even⟩, B_Rounds_is_even⟩, cls_ca ca_Rounds OB_Rounds, by decide +kernel⟩ <|
    mtN
  have G_look_at_groups : FnOk P w K mg base (L2N.CX P w) 3 f_look_at_groups _ ["lower", "upper"] (spM ⟨P, w, K, mg⟩ .S d_look_at_groups) := fn_ok F_look_at_groups sc_look_at_groups (fun cdv A outer s H E hr => b_look_at_groups T MT_size MT_is_even cdv A outer s H E hr)
  have M_look_at_groups : FnM P w K mg base 3 "look_at_groups" .S d_look_at_groups := ⟨f_look_at_groups, _, _, G_look_at_groups, PySem.W.mg_of X G a_look_at_groups, k_look_at_groups, B_look_at_groups⟩
  have G_is_whole : FnOk P w K mg base (L2N.CX P w) 1 f_is_whole _ ["thing"] (spM ⟨P, w, K, mg⟩ .S d_is_whole) := fn_ok F_is_whole sc_is_whole (fun cdv A outer s H E hr => b_is_whole T cdv A outer s H E hr)
  have M_is_whole : FnM P w K mg base 1 "is_whole" .S d_is_whole := ⟨f_is_whole, _, _, G_is_whole, PySem.W.mg_of X G a_is_whole, k_is_whole, B_is_whole⟩
  have G_Rounds_has : FnOk P w K mg base (L2N.CX P w) 2 f_Rounds_has _ ["self", "thing"] (spM ⟨P, w, K, mg⟩ .S d_Rounds_has) := fn_ok F_Rounds_has sc_Rounds_has (fun cdv A outer s H E hr => b_Rounds_has T M_is_whole cdv A outer s H E hr)
  have MT_has : ∀ c g, mt_has c = some g → MtM P w K mg base 2 "has" c .S g :=
    mtC ⟨⟨f_Rounds_has, _, _, G_Rounds_has.mono (by decide), meth_ca ca_Rounds ⟨a_Rounds_has, i_Rounds_has, k_Rounds_has⟩, B_Rounds_has⟩, cls_ca ca_Rounds OB_Rounds, by decide +kernel⟩ <|
    mtN
  have G_Table_init := fn_okI (P := P) (w := w) (mg := mg) (base := base) (c := 2) (g := e_Table_init) F_Table_init sc_Table_init (by decide) (fun cdv A outer s H E x hr => b_Table_init T M_look_at_groups MT_members MT_has cdv A outer s H E x hr)
  have MK_Table : MkM P w K mg base 4 2 d_Table_init := ⟨f_Table_init, _, _, G_Table_init, (by rw [ca_Table]; exact ⟨mk_Table, a_Table_init, i_Table_init, kc_Table⟩), cg_by m_Table, B_Table_init⟩
  have G_are_rounds : FnOk P w K mg base (L2N.CX P w) 2 f_are_rounds _ ["thing"] (spM ⟨P, w, K, mg⟩ .S d_are_rounds) := fn_ok F_are_rounds sc_are_rounds (fun cdv A outer s H E hr => b_are_rounds T M_is_whole cdv A outer s H E hr)
  have M_are_rounds : FnM P w K mg base 2 "are_rounds" .S d_are_rounds := ⟨f_are_rounds, _, _, G_are_rounds, PySem.W.mg_of X G a_are_rounds, k_are_rounds, B_are_rounds⟩
  have G_Rounds_init := fn_okI (P := P) (w := w) (mg := mg) (base := base) (c := 0) (g := e_Rounds_init) F_Rounds_init sc_Rounds_init (by decide) (fun cdv A outer s H E x hr => b_Rounds_init T M_are_rounds cdv A outer s H E x hr)
  have MK_Rounds : MkM P w K mg base 3 0 d_Rounds_init := ⟨f_Rounds_init, _, _, G_Rounds_init, (by rw [ca_Rounds]; exact ⟨mk_Rounds, a_Rounds_init, i_Rounds_init, kc_Rounds⟩), cg_by m_Rounds, B_Rounds_init⟩
  have G_q_odd_thing : FnOk P w K mg base (L2N.CX P w) 1 f_q_odd_thing _ ["_law_lower", "_law_cell_here"] (spM ⟨P, w, K, mg⟩ .S d_q_odd_thing) := fn_ok F_q_odd_thing sc_q_odd_thing (fun cdv A outer s H E hr => b_q_odd_thing T cdv A outer s H E hr)
  have M_q_odd_thing : FnM P w K mg base 1 "_law_odd_thing" .S d_q_odd_thing := ⟨f_q_odd_thing, _, _, G_q_odd_thing, PySem.W.mg_of X G a_q_odd_thing, k_q_odd_thing, B_q_odd_thing⟩
  have G_labels_of : FnOk P w K mg base (L2N.CX P w) 3 f_labels_of _ ["lower", "upper", "h"] (spM ⟨P, w, K, mg⟩ .S d_labels_of) := fn_ok F_labels_of sc_labels_of (fun cdv A outer s H E hr => b_labels_of T MT_members MT_has cdv A outer s H E hr)
  have M_labels_of : FnM P w K mg base 3 "labels_of" .S d_labels_of := ⟨f_labels_of, _, _, G_labels_of, PySem.W.mg_of X G a_labels_of, k_labels_of, B_labels_of⟩
  have G_Table_carries : FnOk P w K mg base (L2N.CX P w) 1 f_Table_carries _ ["self"] (spM ⟨P, w, K, mg⟩ .S d_Table_carries) := fn_ok F_Table_carries sc_Table_carries (fun cdv A outer s H E hr => b_Table_carries T cdv A outer s H E hr)
  have MT_carries : ∀ c g, mt_carries c = some g → MtM P w K mg base 1 "carries" c .S g :=
    mtC ⟨⟨f_Table_carries, _, _, G_Table_carries.mono (by decide), meth_ca ca_Table ⟨a_Table_carries, i_Table_carries, k_Table_carries⟩, B_Table_carries⟩, cls_ca ca_Table OB_Table, by decide +kernel⟩ <|
    mtN
  have G_Group_look_at : FnOk P w K mg base (L2N.CX P w) 3 f_Group_look_at _ ["self", "thing"] (spM ⟨P, w, K, mg⟩ .S d_Group_look_at) := fn_ok F_Group_look_at sc_Group_look_at (fun cdv A outer s H E hr => b_Group_look_at T MT_has cdv A outer s H E hr)
  have MT_look_at : ∀ c g, mt_look_at c = some g → MtM P w K mg base 3 "look_at" c .S g :=
    mtC ⟨⟨f_Group_look_at, _, _, G_Group_look_at.mono (by decide), meth_ca ca_Rounds ⟨am_Rounds_look_at, i_Group_look_at, k_Group_look_at⟩, B_Group_look_at⟩, cls_ca ca_Rounds OB_Rounds, by decide +kernel⟩ <|
    mtN
  have G_Rounds_put : FnOk P w K mg base (L2N.CX P w) 1 f_Rounds_put _ ["self", "x", "y"] (spM ⟨P, w, K, mg⟩ .S d_Rounds_put) := fn_ok F_Rounds_put sc_Rounds_put (fun cdv A outer s H E hr => b_Rounds_put T cdv A outer s H E hr)
  have MT_put : ∀ c g, mt_put c = some g → MtM P w K mg base 1 "put" c .S g :=
    mtC ⟨⟨f_Rounds_put, _, _, G_Rounds_put.mono (by decide), meth_ca ca_Rounds ⟨a_Rounds_put, i_Rounds_put, k_Rounds_put⟩, B_Rounds_put⟩, cls_ca ca_Rounds OB_Rounds, by decide +kernel⟩ <|
    mtN
  have G_Group_added : FnOk P w K mg base (L2N.CX P w) 4 f_Group_added _ ["self", "x", "y"] (spM ⟨P, w, K, mg⟩ .S d_Group_added) := fn_ok F_Group_added sc_Group_added (fun cdv A outer s H E hr => b_Group_added T MT_look_at MT_put cdv A outer s H E hr)
  have MT_added : ∀ c g, mt_added c = some g → MtM P w K mg base 4 "added" c .S g :=
    mtC ⟨⟨f_Group_added, _, _, G_Group_added.mono (by decide), meth_ca ca_Rounds ⟨am_Rounds_added, i_Group_added, k_Group_added⟩, B_Group_added⟩, cls_ca ca_Rounds OB_Rounds, by decide +kernel⟩ <|
    mtN
  have G_Rounds_backed : FnOk P w K mg base (L2N.CX P w) 1 f_Rounds_backed _ ["self", "x"] (spM ⟨P, w, K, mg⟩ .S d_Rounds_backed) := fn_ok F_Rounds_backed sc_Rounds_backed (fun cdv A outer s H E hr => b_Rounds_backed T cdv A outer s H E hr)
  have MT_backed : ∀ c g, mt_backed c = some g → MtM P w K mg base 1 "backed" c .S g :=
    mtC ⟨⟨f_Rounds_backed, _, _, G_Rounds_backed.mono (by decide), meth_ca ca_Rounds ⟨a_Rounds_backed, i_Rounds_backed, k_Rounds_backed⟩, B_Rounds_backed⟩, cls_ca ca_Rounds OB_Rounds, by decide +kernel⟩ <|
    mtN
  have G_Group_back : FnOk P w K mg base (L2N.CX P w) 4 f_Group_back _ ["self", "x"] (spM ⟨P, w, K, mg⟩ .S d_Group_back) := fn_ok F_Group_back sc_Group_back (fun cdv A outer s H E hr => b_Group_back T MT_look_at MT_backed cdv A outer s H E hr)
  have MT_back : ∀ c g, mt_back c = some g → MtM P w K mg base 4 "back" c .S g :=
    mtC ⟨⟨f_Group_back, _, _, G_Group_back.mono (by decide), meth_ca ca_Rounds ⟨am_Rounds_back, i_Group_back, k_Group_back⟩, B_Group_back⟩, cls_ca ca_Rounds OB_Rounds, by decide +kernel⟩ <|
    mtN
  have G_own_carry : FnOk P w K mg base (L2N.CX P w) 5 f_own_carry _ ["lower", "upper", "h", "x", "y"] (spM ⟨P, w, K, mg⟩ .S d_own_carry) := fn_ok F_own_carry sc_own_carry (fun cdv A outer s H E hr => b_own_carry T MT_added MT_back cdv A outer s H E hr)
  have M_own_carry : FnM P w K mg base 5 "own_carry" .S d_own_carry := ⟨f_own_carry, _, _, G_own_carry, PySem.W.mg_of X G a_own_carry, k_own_carry, B_own_carry⟩
  have G_changed : FnOk P w K mg base (L2N.CX P w) 6 f_changed _ ["table", "h"] (spM ⟨P, w, K, mg⟩ .S d_changed) := fn_ok F_changed sc_changed (fun cdv A outer s H E hr => b_changed T M_labels_of MT_carries M_own_carry MT_added MK_Table cdv A outer s H E hr)
  have M_changed : FnM P w K mg base 6 "changed" .S d_changed := ⟨f_changed, _, _, G_changed, PySem.W.mg_of X G a_changed, k_changed, B_changed⟩
  have G_q_lacks : FnOk P w K mg base (L2N.CX P w) 7 f_q_lacks _ ["_law_table", "_law_h"] (spM ⟨P, w, K, mg⟩ .S d_q_lacks) := fn_ok F_q_lacks sc_q_lacks (fun cdv A outer s H E hr => b_q_lacks T M_changed cdv A outer s H E hr)
  have M_q_lacks : FnM P w K mg base 7 "_law_lacks" .S d_q_lacks := ⟨f_q_lacks, _, _, G_q_lacks, PySem.W.mg_of X G a_q_lacks, k_q_lacks, B_q_lacks⟩
  have G_q_whole : FnOk P w K mg base (L2N.CX P w) 1 f_q_whole _ ["_law_thing"] (spM ⟨P, w, K, mg⟩ .S d_q_whole) := fn_ok F_q_whole sc_q_whole (fun cdv A outer s H E hr => b_q_whole T cdv A outer s H E hr)
  have M_q_whole : FnM P w K mg base 1 "_law_whole" .S d_q_whole := ⟨f_q_whole, _, _, G_q_whole, PySem.W.mg_of X G a_q_whole, k_q_whole, B_q_whole⟩
  have G_q_are : FnOk P w K mg base (L2N.CX P w) 2 f_q_are _ ["_law_found", "_law_many"] (spM ⟨P, w, K, mg⟩ .S d_q_are) := fn_ok F_q_are sc_q_are (fun cdv A outer s H E hr => b_q_are T M_q_whole cdv A outer s H E hr)
  have M_q_are : FnM P w K mg base 2 "_law_are" .S d_q_are := ⟨f_q_are, _, _, G_q_are, PySem.W.mg_of X G a_q_are, k_q_are, B_q_are⟩
  have G_q_table_is : FnOk P w K mg base (L2N.CX P w) 3 f_q_table_is _ ["_law_found", "_law_lower", "_law_upper", "_law_due"] (spM ⟨P, w, K, mg⟩ .S d_q_table_is) := fn_ok F_q_table_is sc_q_table_is (fun cdv A outer s H E hr => b_q_table_is T MT_carries M_q_are cdv A outer s H E hr)
  have M_q_table_is : FnM P w K mg base 3 "_law_table_is" .S d_q_table_is := ⟨f_q_table_is, _, _, G_q_table_is, PySem.W.mg_of X G a_q_table_is, k_q_table_is, B_q_table_is⟩
  have G_law : FnOk P w K mg base (L2N.CX P w) 8 fa _ ["_law_script"] (spM ⟨P, w, K, mg⟩ .S d_law) := fn_ok F_law sc_law (fun cdv A outer s H E hr => b_law T M_q_rounds M_q_cell M_q_any M_q_parts M_q_carries M_q_labels MK_Table MK_Rounds M_q_all M_q_odd_thing M_q_lacks MT_carries M_q_sum M_q_own M_changed M_q_table_is cdv A outer s H E hr)
  exact G_law
noncomputable instance tnD : Tn := ⟨fun _ => "", []⟩
end Mir.K27
namespace Mir.K27
open PySem PySem.Spec PyProof.Rows L2
set_option maxHeartbeats 1000000
theorem is_whole_int (i : Int) : d_is_whole [.int i] = .ok (.bl true) := by kernel_rfl
theorem has_turn (rs x : List Int) (i n : Int) (h0 : 0 ≤ i) (h1 : i < n) (a b : Slot) : Rounds_has_l1 (.tup [.int i, .int n]) [.sh (gR rs), .sh (tuI x), a, b] = .nx [.sh (gR rs), .sh (tuI x), .sh (.int i), .sh (.int n)] := by
  have z1 : ¬ i < 0 := by omega
  have z2 : ¬ n ≤ i := by omega
  simp [Rounds_has_l1, is_whole_int, z1, z2]
theorem has_ok {rs x : List Int} (h : OkE rs x) : d_Rounds_has [gR rs, tuI x] = .ok (.bl true) := by
  refine runD_rt rfl ?_
  have st : startD N_Rounds_has.length [gR rs, tuI x] = [.sh (gR rs), .sh (tuI x), .un, .un] := rfl
  rw [st]
  have z : zip2D [tuI x, tuI rs] = .ok (zipL2 (x.map .int) (rs.map .int)) := rfl
  obtain ⟨r', loop, a, b, rfl⟩ := forD_all (f := Rounds_has_l1) (ds := zipL2 (x.map .int) (rs.map .int)) (fun r => ∃ a b, r = [.sh (gR rs), .sh (tuI x), a, b]) (fun d hd r ⟨a, b, e⟩ => by
    obtain ⟨p, hp, rfl⟩ := mem_zip2 hd
    obtain ⟨h1, h2⟩ := h.at_ p hp
    subst e
    exact ⟨_, has_turn rs x p.1 p.2 h1 h2 a b, _, _, rfl⟩) (r := [.sh (gR rs), .sh (tuI x), .un, .un]) ⟨.un, .un, rfl⟩
  unfold e_Rounds_has
  simp [is_tuple, fld_rounds, h.len, z, loop]
theorem put_ok {rs x y : List Int} (h : OkR rs) (h1 : x.length = rs.length) (h2 : y.length = rs.length) : d_Rounds_put [gR rs, tuI x, tuI y] = .ok (tuI (putV rs x y)) := by
  refine runD_rt rfl ?_
  have st : startD N_Rounds_put.length [gR rs, tuI x, tuI y] = [.sh (gR rs), .sh (tuI x), .sh (tuI y), .un, .un, .un] := rfl
  rw [st]
  have z : zip3D [tuI x, tuI y, tuI rs] = .ok (zipL3 (x.map .int) (y.map .int) (rs.map .int)) := rfl
  have c : Rounds_put_c1 [.sh (gR rs), .sh (tuI x), .sh (tuI y), .un, .un, .un] (zipL3 (x.map .int) (y.map .int) (rs.map .int)) = .ok ((putV rs x y).map .int) := by
    unfold Rounds_put_c1
    have e : zipL3 (x.map D.int) (y.map D.int) (rs.map D.int) = (x.zip (y.zip rs)).map fun p => .tup [.int p.1, .int p.2.1, .int p.2.2] := by
      unfold zipL3
      rw [List.zip_map, List.zip_map, List.map_map]
      rfl
    rw [e]
    have m : ∀ p ∈ x.zip (y.zip rs), 0 < p.2.2 := fun p hp => by
      have q := (List.of_mem_zip (List.of_mem_zip hp).2).2
      have q2 : (2 : Int) ≤ p.2.2 := h.two _ q
      omega
    rw [lcD_map (fun d => match d with | .tup [.int a, .int b, .int n] => .int ((a + b) % n) | _ => .non) (fun d hd => by
      obtain ⟨p, hp, rfl⟩ := List.mem_map.mp hd
      refine ⟨_, rfl, rfl, ?_⟩
      simp [wipeR, modD_ok (m p hp)])]
    rw [List.map_map]
    unfold putV
    rw [List.map_map]
    rfl
  have l7 := h.len
  have hl : (putV rs x y).length ≤ lim := by rw [putV_len h1 h2]; unfold lim; omega
  unfold e_Rounds_put
  simp [fld_rounds, z, c, hl]
theorem backed_ok {rs x : List Int} (h : OkR rs) (h1 : x.length = rs.length) : d_Rounds_backed [gR rs, tuI x] = .ok (tuI (backV rs x)) := by
  refine runD_rt rfl ?_
  have st : startD N_Rounds_backed.length [gR rs, tuI x] = [.sh (gR rs), .sh (tuI x), .un, .un] := rfl
  rw [st]
  have z : zip2D [tuI x, tuI rs] = .ok (zipL2 (x.map .int) (rs.map .int)) := rfl
  have c : Rounds_backed_c1 [.sh (gR rs), .sh (tuI x), .un, .un] (zipL2 (x.map .int) (rs.map .int)) = .ok ((backV rs x).map .int) := by
    unfold Rounds_backed_c1
    have e : zipL2 (x.map D.int) (rs.map D.int) = (x.zip rs).map fun p => .tup [.int p.1, .int p.2] := by
      unfold zipL2
      rw [List.zip_map, List.map_map]
      rfl
    rw [e]
    have m : ∀ p ∈ x.zip rs, 0 < p.2 := fun p hp => by
      have q2 : (2 : Int) ≤ p.2 := h.two _ (List.of_mem_zip hp).2
      omega
    rw [lcD_map (fun d => match d with | .tup [.int a, .int n] => .int ((0 - a) % n) | _ => .non) (fun d hd => by
      obtain ⟨p, hp, rfl⟩ := List.mem_map.mp hd
      refine ⟨_, rfl, rfl, ?_⟩
      simp [wipeR, modD_ok (m p hp)])]
    rw [List.map_map]
    unfold backV
    rw [List.map_map]
    rfl
  have l7 := h.len
  have hl : (backV rs x).length ≤ lim := by rw [backV_len h1]; unfold lim; omega
  unfold e_Rounds_backed
  simp [fld_rounds, z, c, hl]
theorem look_ok {rs x : List Int} (h : OkE rs x) : d_Group_look_at [gR rs, tuI x] = .ok .non := by
  refine runD_nx (r := [.sh (gR rs), .sh (tuI x)]) rfl ?_
  have st : startD N_Group_look_at.length [gR rs, tuI x] = [.sh (gR rs), .sh (tuI x)] := rfl
  rw [st]
  unfold e_Group_look_at
  simp [mthD, mt_has, has_ok h]
theorem added_ok {rs x y : List Int} (h : OkR rs) (hx : OkE rs x) (hy : OkE rs y) : d_Group_added [gR rs, tuI x, tuI y] = .ok (tuI (putV rs x y)) := by
  refine runD_rt rfl ?_
  have st : startD N_Group_added.length [gR rs, tuI x, tuI y] = [.sh (gR rs), .sh (tuI x), .sh (tuI y)] := rfl
  rw [st]
  unfold e_Group_added
  simp [mthD, mt_look_at, mt_put, look_ok hx, look_ok hy, put_ok h hx.len hy.len]
theorem back_ok {rs x : List Int} (h : OkR rs) (hx : OkE rs x) : d_Group_back [gR rs, tuI x] = .ok (tuI (backV rs x)) := by
  refine runD_rt rfl ?_
  have st : startD N_Group_back.length [gR rs, tuI x] = [.sh (gR rs), .sh (tuI x)] := rfl
  rw [st]
  unfold e_Group_back
  simp [mthD, mt_look_at, mt_backed, look_ok hx, backed_ok h hx.len]
theorem rounds_turn (src : D) (m n : Int) (h2 : 2 ≤ n) (h144 : n ≤ 144) (a : Slot) : are_rounds_l1 (.int n) [.sh src, .sh (.int m), a] = .nx [.sh src, .sh (.int (m * n)), .sh (.int n)] := by
  have z1 : ¬ n < 2 := by omega
  have z2 : ¬ 144 < n := by omega
  have z3 : mulD (.int m) (.int n) = .ok (.int (m * n)) := mulD_small (.inr ⟨by omega, by omega⟩)
  simp [are_rounds_l1, is_whole_int, z1, z2, z3]
theorem rounds_ok {rs : List Int} (h : OkG rs) (src : D) (hs : src = tuI rs ∨ src = liI rs) : d_are_rounds [src] = .ok (.bl true) := by
  refine runD_rt rfl ?_
  have st : startD N_are_rounds.length [src] = [.sh src, .un, .un] := rfl
  rw [st]
  have hi := is_seq src rs hs isC isU
  have hl : lenD src = .ok (.int rs.length) := by rcases hs with rfl | rfl <;> simp
  have it : itemsD src = .ok (rs.map .int) := by rcases hs with rfl | rfl <;> rfl
  have l7 := h.ok.len
  obtain ⟨r', loop, a, rfl⟩ := forD_ix (f := are_rounds_l1) (ds := rs.map .int) (fun i r => ∃ a, r = [.sh src, .sh (.int ((rs.take i).foldl (· * ·) 1)), a]) (fun i d hd r ⟨a, e⟩ => by
    rw [List.getElem?_map, Option.map_eq_some_iff] at hd
    obtain ⟨n, hn, rfl⟩ := hd
    subst e
    have hm := List.mem_of_getElem? hn
    refine ⟨_, rounds_turn src _ n (h.ok.two n hm) (h.most n hm) a, .sh (.int n), ?_⟩
    rw [take_more hn, List.foldl_append]
    rfl) (r := [.sh src, .sh (.int 1), .un]) ⟨.un, rfl⟩
  rw [List.length_map, List.take_length] at loop
  have z : ¬ (7 : Int) < rs.length := by omega
  unfold e_are_rounds
  simp [-itemsD, hi, hl, it, z, loop, h.prod, lim]
theorem init_ok {rs : List Int} (h : OkG rs) (src : D) (hs : src = tuI rs ∨ src = liI rs) : d_Rounds_init [src] = .ok (gR rs) := by
  have e1 : e_Rounds_init (startI N_Rounds_init.length 0 [src]) = .nx [.ow .flat (gR rs), .sh src] := by
    have st : startI N_Rounds_init.length 0 [src] = [.ow .flat (.obj 0 []), .sh src] := rfl
    rw [st]
    have tu : tupleD src = .ok (tuI rs) := by rcases hs with rfl | rfl <;> rfl
    unfold e_Rounds_init
    simp only [getS_succ, getS0, ok_bind, one, rounds_ok h src hs, asB_bl, lift_ok, Bool.not_true, Bool.false_eq_true, if_false, nx_seq, tu]
    rfl
  exact runI_nx rfl e1
/-- what a cell comes to is some whole number -/
theorem q_cell_turn (i : Nat) (a b s s1 d : D) (n m : Int) (t : Slot) (h0 : 0 ≤ n) (h1 : n < 2147483647) (h2 : 0 ≤ m) (h3 : m < 2147483647 ^ (i + 1)) (hi : i < 12) : ∃ n' m' : Int, q_cell_l1 d [.sh a, .sh b, .sh s, .sh (.int n), .sh (.int m), t] = .nx [.sh a, .sh b, .sh s, .sh (.int n'), .sh (.int m'), .sh d] ∧ 0 ≤ n' ∧ n' < 2147483647 ∧ 0 ≤ m' ∧ m' < 2147483647 ^ (i + 2) := by
  have b1 := bits_60 (i := n) (by omega) (by omega)
  have b2 := bits_60 (i := 69621) (by omega) (by omega)
  have hp : (2147483647 : Int) ^ (i + 1) ≤ 2147483647 ^ 12 := by
    have z : ∀ j : Nat, j ≤ 12 → (2147483647 : Int) ^ j ≤ 2147483647 ^ 12 := by decide
    exact z _ (by omega)
  have b3 : bits m < 400 := bits_lt (by decide) (by
    have e : (2147483647 : Int) ^ 12 = ((2147483647 ^ 12 : Nat) : Int) := by decide
    have : m.natAbs < 2147483647 ^ 12 := by omega
    exact Nat.lt_of_lt_of_le this (by decide))
  have b4 := bits_60 (i := 2147483647) (by omega) (by omega)
  have m1 : mulD (.int n) (.int 69621) = .ok (.int (n * 69621)) := mulD_bits (by omega)
  have m2 : mulD (.int m) (.int 2147483647) = .ok (.int (m * 2147483647)) := mulD_bits (by omega)
  have l1 := Int.emod_nonneg (n * 69621 + 7919) (b := 2147483647) (by decide)
  have l2 := Int.emod_lt_of_pos (n * 69621 + 7919) (b := 2147483647) (by decide)
  refine ⟨(n * 69621 + 7919) % 2147483647, m * 2147483647 + (n * 69621 + 7919) % 2147483647, ?_, l1, l2, by omega, ?_⟩
  · simp [q_cell_l1, m1, m2, modD_ok]
  · rw [Int.pow_succ _ (i + 1)]
    have q : m + 1 ≤ 2147483647 ^ (i + 1) := by omega
    have := Int.mul_le_mul_of_nonneg_right q (show (0 : Int) ≤ 2147483647 by omega)
    omega
theorem q_cell_ok (ns : List Int) (k : Int) (h0 : 0 ≤ k) (h1 : k ≤ 1000000) : ∃ c, d_q_cell [.scr ns, .int k] = .ok (.int c) := by
  have hr : rng1 [.int 12] = .ok (rangeL 0 12) := rng1_ok (by omega) (by omega)
  have b1 := bits_60 (i := 1009) (by omega) (by omega)
  have b2 := bits_60 (i := k) (by omega) (by omega)
  have m1 : mulD (.int 1009) (.int k) = .ok (.int (1009 * k)) := mulD_ok b1 b2
  have loop0 : ∀ h n0 : Int, 0 ≤ n0 → n0 < 2147483647 → ∃ n' m' : Int, ∃ t, forD q_cell_l1 (rangeL 0 12) [.sh (.scr ns), .sh (.int k), .sh (.int h), .sh (.int n0), .sh (.int n0), .un] = .nx [.sh (.scr ns), .sh (.int k), .sh (.int h), .sh (.int n'), .sh (.int m'), t] := fun h n0 z0 z1 => by
    obtain ⟨r', e, n', m', t, e2, _⟩ := forD_ix (f := q_cell_l1) (ds := rangeL 0 12) (fun i r => ∃ (n m : Int) (t : Slot), r = [.sh (.scr ns), .sh (.int k), .sh (.int h), .sh (.int n), .sh (.int m), t] ∧ 0 ≤ n ∧ n < 2147483647 ∧ 0 ≤ m ∧ m < 2147483647 ^ (i + 1)) (fun i d hd r ⟨n, m, t, e, a1, a2, a3, a4⟩ => by
      have hi := (List.getElem?_eq_some_iff.mp hd).1
      rw [rangeL_len] at hi
      subst e
      obtain ⟨n', m', e, q⟩ := q_cell_turn i (.scr ns) (.int k) (.int h) (.int h) d n m t a1 a2 a3 a4 hi
      exact ⟨_, e, n', m', _, rfl, q⟩) (r := [.sh (.scr ns), .sh (.int k), .sh (.int h), .sh (.int n0), .sh (.int n0), .un]) ⟨n0, n0, .un, rfl, z0, z1, z0, by simpa using z1⟩
    exact ⟨n', m', t, by rw [e, e2]⟩
  have loop := fun h : Int => loop0 h ((h % 2147483647 + 1009 * k + 7) * 48271 % 2147483647) (Int.emod_nonneg _ (by decide)) (Int.emod_lt_of_pos _ (by decide))
  have mm : ∀ h : Int, mulD (.int (h % 2147483647 + 1009 * k + 7)) (.int 48271) = .ok (.int ((h % 2147483647 + 1009 * k + 7) * 48271)) := fun h => mulD_ok (bits_60 (by omega) (by omega)) (bits_60 (by omega) (by omega))
  by_cases hn : ns.length = 0
  · have e0 : ns = [] := List.length_eq_zero_iff.mp hn
    subst e0
    obtain ⟨n', m', t, e⟩ := loop 0
    simp at e
    refine ⟨m', runD_rt rfl ?_⟩
    simp only [startD, N_q_cell, List.length_cons, List.length_nil, List.map_cons, List.map_nil, Nat.reduceAdd, Nat.reduceSub, Nat.zero_add, List.replicate, List.cons_append, List.nil_append]
    have m0 := mm 0
    simp at m0
    simp [e_q_cell, hr, m1, m0, modD_ok, e]
  · have hix : ∀ i : Int, 0 ≤ i → i < ns.length → ixD (.scr ns) (.int i) = .ok (.int (ns.getD i.toNat 0)) := fun i a b => by rw [ixD_scr, atI_getD a b]
    have c1 := Int.emod_nonneg k (b := (ns.length : Int)) (by omega)
    have c2 := Int.emod_lt_of_pos k (b := (ns.length : Int)) (by omega)
    have i1 := hix _ c1 c2
    have i0 := hix 0 (by omega) (by omega)
    have hp : 0 < ns.length := by omega
    generalize ns.getD (k % ns.length).toNat 0 = h at i1
    generalize ns.getD (0 : Int).toNat 0 = g at i0
    obtain ⟨n', m', t, e⟩ := loop h
    have md : modD (.int k) (.int ns.length) = .ok (.int (k % ns.length)) := modD_ok (by omega)
    have dv : divD (.int h) (.int 2) = .ok (.int (h / 2)) := divD_ok (by omega) (bits_60 (by omega) (by omega))
    by_cases hg : g % 2 = 0
    · refine ⟨h / 2, runD_rt rfl ?_⟩
      simp only [startD, N_q_cell, List.length_cons, List.length_nil, List.map_cons, List.map_nil, Nat.reduceAdd, Nat.reduceSub, Nat.zero_add, List.replicate, List.cons_append, List.nil_append]
      simp [-ixD_scr, e_q_cell, i1, i0, md, modD_ok, hp, hg, dv]
    · refine ⟨m', runD_rt rfl ?_⟩
      simp only [startD, N_q_cell, List.length_cons, List.length_nil, List.map_cons, List.map_nil, Nat.reduceAdd, Nat.reduceSub, Nat.zero_add, List.replicate, List.cons_append, List.nil_append]
      simp [-ixD_scr, e_q_cell, hr, i1, i0, md, m1, mm, modD_ok, hp, hg, dv, e]
/-- so many times, as the law tells it -/
theorem q_times_ok {rs x : List Int} {n : Int} (h : OkR rs) (hx : OkE rs x) (hb : ∀ n ∈ rs, n ≤ 144) : d_q_times [tuI rs, .int n, tuI x] = .ok (tuI (timesV rs n x)) := by
  refine runD_rt rfl ?_
  simp only [startD, N_q_times, List.length_cons, List.length_nil, List.map_cons, List.map_nil, Nat.reduceAdd, Nat.reduceSub, Nat.zero_add, List.replicate, List.cons_append, List.nil_append]
  have c : q_times_c1 [.sh (tuI rs), .sh (.int n), .sh (tuI x), .un, .un] (zipL2 (x.map .int) (rs.map .int)) = .ok ((timesV rs n x).map .int) := by
    unfold q_times_c1 timesV
    rw [List.map_map]
    refine lcD_zip2 _ fun p hp => ⟨rfl, ?_⟩
    obtain ⟨a, b⟩ := hx.at_ p hp
    have m1 := hb _ (List.of_mem_zip hp).2
    have m2 : mulD (.int n) (.int p.1) = .ok (.int (n * p.1)) := mulD_small (.inr ⟨by omega, by omega⟩)
    simp [wipeR, m2, modD_ok (show 0 < p.2 by omega)]
  have l7 := h.len
  have hl : (timesV rs n x).length ≤ lim := by rw [timesV_len rs x n hx.len]; unfold lim; omega
  have z : zip2D [tuI x, tuI rs] = .ok (zipL2 (x.map .int) (rs.map .int)) := rfl
  simp [e_q_times, z, c, hl]
theorem q_sum_ok {rs x y : List Int} (h : OkR rs) (h1 : x.length = rs.length) (h2 : y.length = rs.length) : d_q_sum [tuI rs, tuI x, tuI y] = .ok (tuI (putV rs x y)) := by
  refine runD_rt rfl ?_
  simp only [startD, N_q_sum, List.length_cons, List.length_nil, List.map_cons, List.map_nil, Nat.reduceAdd, Nat.reduceSub, Nat.zero_add, List.replicate, List.cons_append, List.nil_append]
  have c : q_sum_c1 [.sh (tuI rs), .sh (tuI x), .sh (tuI y), .un, .un, .un] (zipL3 (x.map .int) (y.map .int) (rs.map .int)) = .ok ((putV rs x y).map .int) := by
    unfold q_sum_c1 putV
    rw [List.map_map]
    refine lcD_zip3 _ fun p hp => ⟨rfl, ?_⟩
    have q : (2 : Int) ≤ p.2.2 := h.two _ (List.of_mem_zip (List.of_mem_zip hp).2).2
    simp [wipeR, modD_ok (show 0 < p.2.2 by omega)]
  have z : zip3D [tuI x, tuI y, tuI rs] = .ok (zipL3 (x.map .int) (y.map .int) (rs.map .int)) := rfl
  have l7 := h.len
  have hl : (putV rs x y).length ≤ lim := by rw [putV_len h1 h2]; unfold lim; omega
  simp [e_q_sum, z, c, hl]
theorem q_drawn_ok {rs : List Int} {c : Int} (h : OkR rs) (hb : ∀ n ∈ rs, n ≤ 144) : ∃ x, OkE rs x ∧ d_q_drawn [tuI rs, .int c] = .ok (tuI x) := by
  have l7 := h.len
  obtain ⟨r', loop, c', x, s, rfl, hx⟩ := forD_ix (f := q_drawn_l1) (ds := rs.map .int) (fun i r => ∃ (c' : Int) (x : List Int) (s : Slot), r = [.sh (tuI rs), .sh (.int c'), .ow .flat (.lst (x.map .int)), s] ∧ x.length = i ∧ ∀ j, j < i → 0 ≤ x.getD j 0 ∧ x.getD j 0 < rs.getD j 0) (fun i d hd r ⟨c', x, s, e, hl, hx⟩ => by
    rw [List.getElem?_map, Option.map_eq_some_iff] at hd
    obtain ⟨n, hn, rfl⟩ := hd
    have hm := List.mem_of_getElem? hn
    have n2 := h.two n hm
    have n3 := hb n hm
    subst e
    have hi : i < rs.length := (List.getElem?_eq_some_iff.mp hn).1
    have en : rs.getD i 0 = n := by rw [List.getD_eq_getElem?_getD, hn]; rfl
    have md := modD_ok (i := c') (j := n) (by omega)
    have dv := divD_ok (i := c') (j := n) (by omega) (bits_60 (by omega) (by omega))
    have ll : x.length < lim := by unfold lim; omega
    refine ⟨[.sh (tuI rs), .sh (.int (c' / n)), .ow .flat (.lst ((x ++ [c' % n]).map .int)), .sh (.int n)], ?_, c' / n, x ++ [c' % n], _, rfl, by simp [hl], fun j hj => ?_⟩
    · simp [q_drawn_l1, appG, ownL, md, dv, ll]
    · by_cases e : j < i
      · have := hx j e
        rw [List.getD_eq_getElem?_getD, List.getElem?_append_left (by omega), ← List.getD_eq_getElem?_getD]
        exact this
      · have e2 : j = i := by omega
        subst e2
        have e3 : (x ++ [c' % n]).getD j 0 = c' % n := by rw [List.getD_eq_getElem?_getD, List.getElem?_append_right (by omega)]; simp [hl]
        rw [e3, en]
        exact ⟨Int.emod_nonneg _ (by omega), Int.emod_lt_of_pos _ (by omega)⟩) (r := [.sh (tuI rs), .sh (.int c), .ow .flat (.lst []), .un]) ⟨c, [], .un, rfl, rfl, fun j hj => by omega⟩
  rw [List.length_map] at hx
  refine ⟨x, ⟨hx.1, fun p hp => ?_⟩, runD_rt rfl ?_⟩
  · obtain ⟨i, hi⟩ := List.getElem?_of_mem hp
    obtain ⟨g1, g2⟩ := List.getElem?_zip_eq_some.mp hi
    have hi' : i < rs.length := (List.getElem?_eq_some_iff.mp g2).1
    have := hx.2 i hi'
    rw [List.getD_eq_getElem?_getD, g1, List.getD_eq_getElem?_getD, g2] at this
    exact this
  · simp only [startD, N_q_drawn, List.length_cons, List.length_nil, List.map_cons, List.map_nil, Nat.reduceAdd, Nat.reduceSub, Nat.zero_add, List.replicate, List.cons_append, List.nil_append]
    simp [e_q_drawn, loop]
/-- the greatest shared part -/
theorem q_shared_ok (a b : Nat) (hb : b < 100000) : d_q_shared [.int a, .int b] = .ok (.int (Nat.gcd a b : Nat)) := by
  refine runD_rt rfl ?_
  simp only [startD, N_q_shared, List.length_cons, List.length_nil, List.map_cons, List.map_nil, Nat.reduceAdd, Nat.reduceSub, Nat.zero_add, List.replicate, List.cons_append, List.nil_append]
  obtain ⟨r', loop, s1, s2, rfl⟩ := loopD_down (c := q_shared_w1c) (b := q_shared_w1) (fun k r => ∃ (x y : Nat) (s : Slot), r = [.sh (.int x), .sh (.int y), s] ∧ y ≤ k ∧ Nat.gcd x y = Nat.gcd a b) (fun r => ∃ s1 s2, r = [.sh (.int (Nat.gcd a b : Nat)), s1, s2]) (by
    rintro k r ⟨x, y, s, rfl, hk, hg⟩
    by_cases hy : y = 0
    · subst hy
      rw [Nat.gcd_zero_right] at hg
      exact .inl ⟨by simp [q_shared_w1c], _, _, by rw [hg]⟩
    · have hy' : 0 < y := by omega
      have l := Nat.mod_lt x hy'
      refine .inr ⟨k - 1, [.sh (.int y), .sh (.int ((x % y : Nat) : Int)), .sh (.int ((x % y : Nat) : Int))], by omega, by simp [q_shared_w1c, hy'], ?_, y, x % y, _, rfl, by omega, ?_⟩
      · have md := modD_ok (i := x) (j := y) (by omega)
        simp [q_shared_w1, md]
      · rw [← hg, Nat.gcd_comm x y, Nat.gcd_rec y x, Nat.gcd_comm]) (k := b) (r := [.sh (.int a), .sh (.int b), .un]) ⟨a, b, _, rfl, Nat.le_refl _, rfl⟩ (by omega)
  simp [e_q_shared, loop]
theorem q_whole_int (i : Int) : d_q_whole [.int i] = .ok (.bl true) := by kernel_rfl
theorem q_are_ok {x : List Int} {m : Nat} (hl : x.length = m) (h7 : m ≤ 1000) : d_q_are [tuI x, .int m] = .ok (.bl true) := by
  refine runD_rt rfl ?_
  simp only [startD, N_q_are, List.length_cons, List.length_nil, List.map_cons, List.map_nil, Nat.reduceAdd, Nat.reduceSub, Nat.zero_add, List.replicate, List.cons_append, List.nil_append]
  have c : q_are_c1 [.sh (tuI x), .sh (.int m), .un] (x.map .int) = .ok (x.map fun _ => .bl true) := by
    unfold q_are_c1
    exact lcD_ints _ fun a _ => ⟨rfl, by simp [wipeR, q_whole_int]⟩
  have hm : (x.map fun _ => D.bl true) = (x.map fun _ => true).map D.bl := by rw [List.map_map]; rfl
  have a : allT (.lst (x.map fun _ => D.bl true)) = .ok (.bl true) := by
    rw [hm, allT_bls]
    simp
  have hlim : m ≤ lim := by unfold lim; omega
  simp [e_q_are, is_tuple, hl, c, a, hlim]
theorem members_ok {rs : List Int} (h : OkR rs) (hb : ∀ n ∈ rs, n ≤ 144) (hp : rs.foldl (· * ·) 1 ≤ 144) : d_Rounds_members [gR rs] = .ok (.lst ((mems rs).map tuI)) := by
  have l7 := h.len
  -- one element made longer
  have c1 : ∀ (n : Int) (x : List Int) (s1 s2 s3 s4 : Slot), 2 ≤ n → n ≤ 144 → x.length < 1000 → Rounds_members_c1 [s1, s2, .sh (.int n), s3, .sh (tuI x), s4] (rangeL 0 n.toNat) = .ok (((List.range n.toNat).map fun i : Nat => x ++ [(i : Int)]).map tuI) := fun n x s1 s2 s3 s4 h2 h3 hx => by
    unfold Rounds_members_c1
    rw [List.map_map]
    refine lcD_range _ fun k hk => ⟨rfl, ?_⟩
    have hl : x.length + 1 ≤ lim := by unfold lim; omega
    have l1 : 1 ≤ lim := by decide
    simp [wipeR, hl, l1]
  have bound : ∀ (l : List Int) (S : List (List Int)), (∀ n ∈ l, 2 ≤ n) → S.length ≤ (l.foldl memsStep S).length := fun l => by
    induction l with
    | nil => intro S _; exact Nat.le_refl _
    | cons n l ih =>
      intro S hl
      have := ih (memsStep S n) fun m hm => hl m (List.mem_cons_of_mem _ hm)
      have hn := hl n List.mem_cons_self
      rw [step_len] at this
      have : S.length * 1 ≤ S.length * n.toNat := Nat.mul_le_mul_left _ (by omega)
      rw [List.foldl_cons]
      omega
  have tot : (mems rs).length ≤ 144 := by
    have := mems_len (rs := rs) fun n hn => by have := h.two n hn; omega
    omega
  obtain ⟨r', loop, s2, s3, s4, rfl⟩ := forD_row (pre0 := rs) (f := Rounds_members_l3) D.int (fun pre r => ∃ s2 s3 s4, r = [.sh (gR rs), .sh (.lst ((mems pre).map tuI)), s2, s3, s4, .un]) (ds := rs) (pre := []) (r := [.sh (gR rs), .sh (.lst [.tup []]), .un, .un, .un, .un]) (fun pre n hpre r ⟨s2, s3, s4, e⟩ => by
    subst e
    obtain ⟨post, hpost⟩ := hpre
    have hn : n ∈ rs := by rw [← hpost]; simp
    have n2 := h.two n hn
    have n3 := hb n hn
    have lenp : pre.length < 1000 := by
      have := congrArg List.length hpost
      simp at this
      omega
    have elen : ∀ x ∈ mems pre, x.length < 1000 := fun x hx => by
      have := (mem_mems.mp hx).len
      omega
    have small : (memsStep (mems pre) n).length ≤ 144 := by
      have e : mems rs = post.foldl memsStep (memsStep (mems pre) n) := by
        unfold mems
        rw [← hpost, List.foldl_append, List.foldl_append]
        rfl
      have := bound post (memsStep (mems pre) n) fun m hm => h.two m (by rw [← hpost]; simp [hm])
      rw [← e] at this
      omega
    have r1 : rng1 [.int n] = .ok (rangeL 0 n.toNat) := rng1_ok (by omega) (by omega)
    obtain ⟨r2, in2, t4, rfl⟩ := forD_row (pre0 := mems pre) (f := Rounds_members_l2) tuI (fun done r => ∃ t4, r = [.sh (gR rs), .sh (.lst ((mems pre).map tuI)), .sh (.int n), .ow .flat (.lst ((memsStep done n).map tuI)), t4, .un]) (ds := mems pre) (pre := []) (r := [.sh (gR rs), .sh (.lst ((mems pre).map tuI)), .sh (.int n), .ow .flat (.lst []), s4, .un]) (fun done x hd r ⟨t4, e⟩ => by
      subst e
      obtain ⟨rest, hr⟩ := hd
      have hx : x ∈ mems pre := by rw [← hr]; simp
      have eq : memsStep (done ++ [x]) n = memsStep done n ++ (List.range n.toNat).map fun i : Nat => x ++ [(i : Int)] := by
        unfold memsStep
        simp
      have le : (memsStep done n).length + ((List.range n.toNat).map fun i : Nat => x ++ [(i : Int)]).length ≤ lim := by
        rw [← List.length_append, ← eq, step_len]
        rw [step_len, ← hr] at small
        simp at small
        have : (done ++ [x]).length * n.toNat ≤ (done.length + (rest.length + 1)) * n.toNat := Nat.mul_le_mul_right _ (by simp)
        unfold lim
        omega
      have q := c1 n x (.sh (gR rs)) (.sh (.lst ((mems pre).map tuI))) (.ow .flat (.lst ((memsStep done n).map tuI))) .un n2 n3 (elen x hx)
      have l0 : ((List.range n.toNat).map fun i : Nat => x ++ [(i : Int)]).length ≤ lim := by omega
      generalize ((List.range n.toNat).map fun i : Nat => x ++ [(i : Int)]) = L at *
      refine ⟨_, ?_, .sh (tuI x), rfl⟩
      rw [eq]
      simp [Rounds_members_l2, extG, ownL, r1, q, le, l0]) rfl ⟨_, rfl⟩
    refine ⟨[.sh (gR rs), .sh (.lst ((mems (pre ++ [n])).map tuI)), .sh (.int n), .sh (.lst ((memsStep (mems pre) n).map tuI)), t4, .un], ?_, _, _, _, rfl⟩
    have eq : mems (pre ++ [n]) = memsStep (mems pre) n := by unfold mems; rw [List.foldl_append]; rfl
    simp only [List.nil_append] at in2
    rw [eq]
    simp [Rounds_members_l3, in2, freeze]) rfl ⟨_, _, _, rfl⟩
  simp only [List.nil_append] at loop
  refine runD_rt rfl ?_
  simp only [startD, N_Rounds_members, List.length_cons, List.length_nil, List.map_cons, List.map_nil, Nat.reduceAdd, Nat.reduceSub, Nat.zero_add, List.replicate, List.cons_append, List.nil_append]
  have l0 : 0 ≤ lim := by decide
  have l1 : 1 ≤ lim := by decide
  simp [e_Rounds_members, fld_rounds, loop, l0, l1]
theorem size_ok {rs : List Int} (g : OkG rs) : d_Group_size [gR rs] = .ok (.int (rs.foldl (· * ·) 1)) := by
  refine runD_rt rfl ?_
  simp only [startD, N_Group_size, List.length_cons, List.length_nil, List.map_cons, List.map_nil, Nat.reduceAdd, Nat.reduceSub, Nat.zero_add, List.replicate, List.cons_append, List.nil_append]
  have m := members_ok g.ok g.most g.prod
  have l := mems_len (rs := rs) fun n hn => by have := g.ok.two n hn; omega
  simp [e_Group_size, mthD, mt_members, m, l]
theorem even_ok (rs : List Int) : d_Rounds_is_even [gR rs] = .ok (.bl true) := by kernel_rfl
theorem is_rounds (rs : List Int) : isD isC isU (gR rs) (.cls 0) = .ok (.bl true) := by kernel_rfl
theorem groups_ok {lo up : List Int} (g1 : OkG lo) (g2 : OkG up) (h1 : lo.foldl (· * ·) 1 ≤ 16) (h2 : up.foldl (· * ·) 1 ≤ 9) : d_look_at_groups [gR lo, gR up] = .ok .non := by
  refine runD_nx (r := [.sh (gR lo), .sh (gR up)]) rfl ?_
  simp only [startD, N_look_at_groups, List.length_cons, List.length_nil, List.map_cons, List.map_nil, Nat.reduceAdd, Nat.reduceSub, Nat.zero_add, List.replicate, List.cons_append, List.nil_append]
  have z1 : ¬ (16 : Int) < lo.foldl (· * ·) 1 := by omega
  have z2 : ¬ (9 : Int) < up.foldl (· * ·) 1 := by omega
  simp [e_look_at_groups, mthD, mt_size, size_ok g1, size_ok g2, mt_is_even, even_ok, is_rounds, z1, z2]
theorem fld_lower (lo up : List Int) (k : List D) : fldD (plOf [2] "lower") (.obj 2 (gR lo :: gR up :: k)) = .ok (gR lo) := by
  have e : plOf [2] "lower" 2 = some 0 := by kernel_rfl
  unfold fldD
  simp [e]
theorem fld_upper (lo up : List Int) (k : List D) : fldD (plOf [2] "upper") (.obj 2 (gR lo :: gR up :: k)) = .ok (gR up) := by
  have e : plOf [2] "upper" 2 = some 1 := by kernel_rfl
  unfold fldD
  simp [e]
theorem fld_kept (lo up : List Int) (d : D) : fldD (plOf [2] "kept") (.obj 2 [gR lo, gR up, d]) = .ok d := by
  have e : plOf [2] "kept" 2 = some 2 := by kernel_rfl
  unfold fldD
  simp [e]
/-- two groups that make a table -/
structure OkT (lo up : List Int) : Prop where
  g1 : OkG lo
  g2 : OkG up
  p1 : lo.foldl (· * ·) 1 ≤ 16
  p2 : up.foldl (· * ·) 1 ≤ 9
/-- carries -/
noncomputable def OkC (lo up : List Int) (c : List Int → List Int → List Int) : Prop := ∀ x y, OkE up x → OkE up y → OkE lo (c x y)
theorem OkT.small {lo up : List Int} (t : OkT lo up) : up ∈ smallUps := small_ups t.g2.ok.two t.p2
theorem OkT.mems_le {lo up : List Int} (t : OkT lo up) : (mems up).length ≤ 9 := by
  have := mems_len (rs := up) fun n hn => by have := t.g2.ok.two n hn; omega
  have := t.p2
  omega
theorem l_two : (2 : Nat) ≤ lim := by decide
theorem table_ok {lo up : List Int} {c : List Int → List Int → List Int} (t : OkT lo up) (cd : D) (h : ∀ x y, OkE up x → OkE up y → notInD (pkD (x, y)) cd = .ok (.bl false) ∧ ixD cd (pkD (x, y)) = .ok (tuI (c x y)) ∧ OkE lo (c x y)) : d_Table_init [gR lo, gR up, cd] = .ok (tabD lo up c) := by
  have g := groups_ok t.g1 t.g2 t.p1 t.p2
  have m := members_ok t.g2.ok t.g2.most t.g2.prod
  have l9 := t.mems_le
  let env (ps : List (List Int × List Int)) (s5 s6 : Slot) : Env := [.ow (.parts [.sh, .sh, .flat]) (.obj 2 [gR lo, gR up, dicF pkD tuI ps fun p => c p.1 p.2]), .sh (gR lo), .sh (gR up), .sh cd, .sh (.lst ((mems up).map tuI)), s5, s6]
  have inner : ∀ (ps : List (List Int × List Int)) (x : List Int) (s6 : Slot), OkE up x → (∀ y, (x, y) ∉ ps) → ps.length ≤ 81 → ∃ s6', forD Table_init_l1 ((mems up).map tuI) (env ps (.sh (tuI x)) s6) = .nx (env (ps ++ (mems up).map fun y => (x, y)) (.sh (tuI x)) s6') := fun ps x s6 hx hno hlen => by
    obtain ⟨r', e, s6', rfl⟩ := forD_row (pre0 := mems up) (f := Table_init_l1) tuI (fun done r => ∃ s6, r = env (ps ++ done.map fun y => (x, y)) (.sh (tuI x)) s6) (ds := mems up) (pre := []) (r := env ps (.sh (tuI x)) s6) (fun done y hd r ⟨s6, e⟩ => by
      subst e
      obtain ⟨rest, hr⟩ := hd
      have hy : OkE up y := mem_mems.mp (by rw [← hr]; simp)
      obtain ⟨q1, q2, q3⟩ := h x y hx hy
      have hh := has_ok q3
      have hl : (ps ++ done.map fun y => (x, y)).length < lim := by
        have := congrArg List.length hr
        simp at this
        simp
        unfold lim
        omega
      have nodup : ((mems up)).Nodup := mems_nodup up
      have hnew : (x, y) ∉ ((ps ++ done.map fun y => (x, y)).map fun p => (p, c p.1 p.2)).map (·.1) := by
        rw [List.map_map]
        intro hm
        obtain ⟨p, hp, e⟩ := List.mem_map.mp hm
        have e' : p = (x, y) := e
        subst e'
        rcases List.mem_append.mp hp with z | z
        · exact hno y z
        · obtain ⟨w, hw, e⟩ := List.mem_map.mp z
          injection e with _ e
          subst e
          rw [← hr, List.nodup_append] at nodup
          have := nodup.1
          rw [List.nodup_append] at this
          exact this.2.2 w hw w (by simp) rfl
      have sk := setK_A' (V := tuI) keyP ((ps ++ done.map fun y => (x, y)).map fun p => (p, c p.1 p.2)) (x, y) (c x y)
      rw [setA_new _ hnew] at sk
      have kt := keyP.t (x, y)
      refine ⟨env (ps ++ (done ++ [y]).map fun y => (x, y)) (.sh (tuI x)) (.sh (tuI y)), ?_, _, rfl⟩
      have eq : dicF pkD tuI (ps ++ (done ++ [y]).map fun y => (x, y)) (fun p => c p.1 p.2) = dicA pkD tuI (((ps ++ done.map fun y => (x, y)).map fun p => (p, c p.1 p.2)) ++ [((x, y), c x y)]) := by
        simp [dicF]
      show Table_init_l1 (tuI y) _ = .nx [.ow (.parts [.sh, .sh, .flat]) (.obj 2 [gR lo, gR up, dicF pkD tuI (ps ++ (done ++ [y]).map fun y => (x, y)) fun p => c p.1 p.2]), _, _, _, _, _, _]
      rw [eq, ← sk]
      generalize (ps ++ done.map fun y => (x, y)) = L at *
      simp [Table_init_l1, env, l_two, q1, q2, mthD, mt_has, hh, setFI, Shape.kid, Shape.isFlat, dicF, dicA, kt, hl]) (by simp) ⟨s6, by simp⟩
    exact ⟨s6', by simpa using e⟩
  obtain ⟨r', outer, s5, s6, rfl⟩ := forD_row (pre0 := mems up) (f := Table_init_l2) tuI (fun done r => ∃ s5 s6, r = env (done.flatMap fun x => (mems up).map fun y => (x, y)) s5 s6) (ds := mems up) (pre := []) (r := env [] .un .un) (fun done x hd r ⟨s5, s6, e⟩ => by
    subst e
    obtain ⟨rest, hr⟩ := hd
    have hx : OkE up x := mem_mems.mp (by rw [← hr]; simp)
    have nodup : ((mems up)).Nodup := mems_nodup up
    obtain ⟨s6', q⟩ := inner (done.flatMap fun x => (mems up).map fun y => (x, y)) x s6 hx (fun y hm => by
      obtain ⟨a, ha, hb⟩ := List.mem_flatMap.mp hm
      obtain ⟨b, _, e⟩ := List.mem_map.mp hb
      injection e with e _
      subst e
      rw [← hr, List.nodup_append] at nodup
      have := nodup.1
      rw [List.nodup_append] at this
      exact this.2.2 a ha a (by simp) rfl) (by
      rw [List.length_flatMap]
      simp only [List.length_map, sum_const]
      have h1 : done.length ≤ 9 := by
        have := congrArg List.length hr
        simp at this
        omega
      calc done.length * (mems up).length ≤ 9 * 9 := Nat.mul_le_mul h1 l9
        _ = 81 := rfl)
    refine ⟨_, ?_, .sh (tuI x), s6', rfl⟩
    rw [List.flatMap_append]
    simp only [List.flatMap_cons, List.flatMap_nil, List.append_nil]
    rw [← q]
    simp [Table_init_l2, env]) (by simp) ⟨.un, .un, rfl⟩
  simp only [List.nil_append] at outer
  have st : startI N_Table_init.length 2 [gR lo, gR up, cd] = [.ow .flat (.obj 2 []), .sh (gR lo), .sh (gR up), .sh cd, .un, .un, .un] := rfl
  have e1 : e_Table_init (startI N_Table_init.length 2 [gR lo, gR up, cd]) = .nx (env (prs up) s5 s6) := by
    rw [st]
    have f0 : setF 0 2 "lower" .sh (gR lo) [.ow .flat (.obj 2 []), .sh (gR lo), .sh (gR up), .sh cd, .un, .un, .un] = .nx [.ow .flat (.obj 2 [gR lo]), .sh (gR lo), .sh (gR up), .sh cd, .un, .un, .un] := by kernel_rfl
    have f1 : setF 0 2 "upper" .sh (gR up) [.ow .flat (.obj 2 [gR lo]), .sh (gR lo), .sh (gR up), .sh cd, .un, .un, .un] = .nx [.ow .flat (.obj 2 [gR lo, gR up]), .sh (gR lo), .sh (gR up), .sh cd, .un, .un, .un] := by kernel_rfl
    have f2 : setF 0 2 "kept" .flat (.dic [] []) [.ow .flat (.obj 2 [gR lo, gR up]), .sh (gR lo), .sh (gR up), .sh cd, .un, .un, .un] = .nx [.ow (.parts [.sh, .sh, .flat]) (.obj 2 [gR lo, gR up, .dic [] []]), .sh (gR lo), .sh (gR up), .sh cd, .un, .un, .un] := by kernel_rfl
    have o2 : forD Table_init_l2 ((mems up).map tuI) [.ow (.parts [.sh, .sh, .flat]) (.obj 2 [gR lo, gR up, .dic [] []]), .sh (gR lo), .sh (gR up), .sh cd, .sh (.lst ((mems up).map tuI)), .un, .un] = .nx (env (prs up) s5 s6) := outer
    simp only [e_Table_init, getS_succ, getS0, ok_bind, g, lift_ok, nx_seq, f0, f1, f2, mthD, mt_members, if_true, m, List.set_cons_succ, List.set_cons_zero, itemsD_lst]
    simp [o2, m]
  exact runI_nx rfl e1
theorem carries_ok {lo up : List Int} {c : List Int → List Int → List Int} (t : OkT lo up) : d_Table_carries [tabD lo up c] = .ok (dicF pkD tuI (prs up) fun p => c p.1 p.2) := by
  have q := dictD_F (E := pkD) (V := tuI) (prs up) (fun p => c p.1 p.2) (apart_prs t.small)
  first | refine runD_rt rfl ?_ | refine runO_rt rfl ?_
  simp only [startD, N_Table_carries, List.length_cons, List.length_nil, List.map_cons, List.map_nil, Nat.reduceAdd, Nat.reduceSub, Nat.zero_add, List.replicate, List.cons_append, List.nil_append]
  simp [e_Table_carries, tabD, fld_kept, q]
theorem q_all_ok {rs : List Int} (h : OkR rs) (hb : ∀ n ∈ rs, n ≤ 144) (hp : rs.foldl (· * ·) 1 ≤ 144) : d_q_all [tuI rs] = .ok (.lst ((mems rs).map tuI)) := by
  have l7 := h.len
  -- one element made longer
  have c1 : ∀ (n : Int) (x : List Int) (s1 s2 s3 s4 : Slot), 2 ≤ n → n ≤ 144 → x.length < 1000 → q_all_c1 [s1, s2, .sh (.int n), s3, .sh (tuI x), s4] (rangeL 0 n.toNat) = .ok (((List.range n.toNat).map fun i : Nat => x ++ [(i : Int)]).map tuI) := fun n x s1 s2 s3 s4 h2 h3 hx => by
    unfold q_all_c1
    rw [List.map_map]
    refine lcD_range _ fun k hk => ⟨rfl, ?_⟩
    have hl : x.length + 1 ≤ lim := by unfold lim; omega
    have l1 : 1 ≤ lim := by decide
    simp [wipeR, hl, l1]
  have bound : ∀ (l : List Int) (S : List (List Int)), (∀ n ∈ l, 2 ≤ n) → S.length ≤ (l.foldl memsStep S).length := fun l => by
    induction l with
    | nil => intro S _; exact Nat.le_refl _
    | cons n l ih =>
      intro S hl
      have := ih (memsStep S n) fun m hm => hl m (List.mem_cons_of_mem _ hm)
      have hn := hl n List.mem_cons_self
      rw [step_len] at this
      have : S.length * 1 ≤ S.length * n.toNat := Nat.mul_le_mul_left _ (by omega)
      rw [List.foldl_cons]
      omega
  have tot : (mems rs).length ≤ 144 := by
    have := mems_len (rs := rs) fun n hn => by have := h.two n hn; omega
    omega
  obtain ⟨r', loop, s2, s3, s4, rfl⟩ := forD_row (pre0 := rs) (f := q_all_l3) D.int (fun pre r => ∃ s2 s3 s4, r = [.sh (tuI rs), .sh (.lst ((mems pre).map tuI)), s2, s3, s4, .un]) (ds := rs) (pre := []) (r := [.sh (tuI rs), .sh (.lst [.tup []]), .un, .un, .un, .un]) (fun pre n hpre r ⟨s2, s3, s4, e⟩ => by
    subst e
    obtain ⟨post, hpost⟩ := hpre
    have hn : n ∈ rs := by rw [← hpost]; simp
    have n2 := h.two n hn
    have n3 := hb n hn
    have lenp : pre.length < 1000 := by
      have := congrArg List.length hpost
      simp at this
      omega
    have elen : ∀ x ∈ mems pre, x.length < 1000 := fun x hx => by
      have := (mem_mems.mp hx).len
      omega
    have small : (memsStep (mems pre) n).length ≤ 144 := by
      have e : mems rs = post.foldl memsStep (memsStep (mems pre) n) := by
        unfold mems
        rw [← hpost, List.foldl_append, List.foldl_append]
        rfl
      have := bound post (memsStep (mems pre) n) fun m hm => h.two m (by rw [← hpost]; simp [hm])
      rw [← e] at this
      omega
    have r1 : rng1 [.int n] = .ok (rangeL 0 n.toNat) := rng1_ok (by omega) (by omega)
    obtain ⟨r2, in2, t4, rfl⟩ := forD_row (pre0 := mems pre) (f := q_all_l2) tuI (fun done r => ∃ t4, r = [.sh (tuI rs), .sh (.lst ((mems pre).map tuI)), .sh (.int n), .ow .flat (.lst ((memsStep done n).map tuI)), t4, .un]) (ds := mems pre) (pre := []) (r := [.sh (tuI rs), .sh (.lst ((mems pre).map tuI)), .sh (.int n), .ow .flat (.lst []), s4, .un]) (fun done x hd r ⟨t4, e⟩ => by
      subst e
      obtain ⟨rest, hr⟩ := hd
      have hx : x ∈ mems pre := by rw [← hr]; simp
      have eq : memsStep (done ++ [x]) n = memsStep done n ++ (List.range n.toNat).map fun i : Nat => x ++ [(i : Int)] := by
        unfold memsStep
        simp
      have le : (memsStep done n).length + ((List.range n.toNat).map fun i : Nat => x ++ [(i : Int)]).length ≤ lim := by
        rw [← List.length_append, ← eq, step_len]
        rw [step_len, ← hr] at small
        simp at small
        have : (done ++ [x]).length * n.toNat ≤ (done.length + (rest.length + 1)) * n.toNat := Nat.mul_le_mul_right _ (by simp)
        unfold lim
        omega
      have q := c1 n x (.sh (tuI rs)) (.sh (.lst ((mems pre).map tuI))) (.ow .flat (.lst ((memsStep done n).map tuI))) .un n2 n3 (elen x hx)
      have l0 : ((List.range n.toNat).map fun i : Nat => x ++ [(i : Int)]).length ≤ lim := by omega
      generalize ((List.range n.toNat).map fun i : Nat => x ++ [(i : Int)]) = L at *
      refine ⟨_, ?_, .sh (tuI x), rfl⟩
      rw [eq]
      simp [q_all_l2, extG, ownL, r1, q, le, l0]) rfl ⟨_, rfl⟩
    refine ⟨[.sh (tuI rs), .sh (.lst ((mems (pre ++ [n])).map tuI)), .sh (.int n), .sh (.lst ((memsStep (mems pre) n).map tuI)), t4, .un], ?_, _, _, _, rfl⟩
    have eq : mems (pre ++ [n]) = memsStep (mems pre) n := by unfold mems; rw [List.foldl_append]; rfl
    simp only [List.nil_append] at in2
    rw [eq]
    simp [q_all_l3, in2, freeze]) rfl ⟨_, _, _, rfl⟩
  simp only [List.nil_append] at loop
  refine runD_rt rfl ?_
  simp only [startD, N_q_all, List.length_cons, List.length_nil, List.map_cons, List.map_nil, Nat.reduceAdd, Nat.reduceSub, Nat.zero_add, List.replicate, List.cons_append, List.nil_append]
  have l0 : 0 ≤ lim := by decide
  have l1 : 1 ≤ lim := by decide
  simp [e_q_all, loop, l0, l1]
theorem timesV_el {rs x : List Int} {n : Int} (h : OkR rs) (hx : OkE rs x) : OkE rs (timesV rs n x) := by
  refine ⟨timesV_len rs x n hx.len, fun p hp => ?_⟩
  obtain ⟨i, hi, e⟩ := List.getElem_of_mem hp
  have lt := timesV_len rs x n hx.len
  have hr : i < rs.length := by rw [List.length_zip, lt, Nat.min_self] at hi; exact hi
  rw [List.getElem_zip] at e
  subst e
  have q := timesV_at (n := n) hr hx.len
  have g := h.get hr
  rw [List.getD_eq_getElem?_getD, List.getElem?_eq_getElem (by omega)] at q g
  simp only [List.getD_eq_getElem?_getD, List.getElem?_eq_getElem hr, Option.getD_some] at q g
  show 0 ≤ (timesV rs n x)[i] ∧ (timesV rs n x)[i] < rs[i]
  rw [q]
  exact ⟨Int.emod_nonneg _ (by omega), Int.emod_lt_of_pos _ (by omega)⟩
theorem getC {lo up : List Int} (c : List Int → List Int → List Int) {x y : List Int} (hx : OkE up x) (hy : OkE up y) : ixD (dicF pkD tuI (prs up) fun p => c p.1 p.2) (.tup [tuI x, tuI y]) = .ok (tuI (c x y)) := by
  have l : lookA ((prs up).map fun p => (p, c p.1 p.2)) (x, y) = some (c x y) := lookA_map (fun p : List Int × List Int => c p.1 p.2) (mem_prs.mpr ⟨mem_mems.mpr hx, mem_mems.mpr hy⟩)
  exact ixD_A (V := tuI) keyP ((prs up).map fun p => (p, c p.1 p.2)) (x, y) l
theorem up_at {lo up : List Int} (t : OkT lo up) {i : Nat} (hi : i < up.length) : up.getD i 0 ≤ 144 := by
  have e3 : up[i]? = some (up.getD i 0) := by rw [List.getD_eq_getElem?_getD, List.getElem?_eq_getElem hi]; rfl
  exact t.g2.most _ (List.mem_of_getElem? e3)
theorem q_odd_ok {lo : List Int} {a b c : Int} (g : OkG lo) (ha : 1 ≤ a) (ha2 : a < 1000) (hb : 1 ≤ b) (hb2 : b < 1000) : ∃ x, (OkE lo x ∧ timesV lo a x = zeroV lo ∧ timesV lo b x = zeroV lo) ∧ d_q_odd [tuI lo, .int a, .int b, .int c] = .ok (tuI x) := by
  have l7 := g.ok.len
  have g1 := q_shared_ok a.toNat b.toNat (by omega)
  rw [Int.toNat_of_nonneg (by omega), Int.toNat_of_nonneg (by omega)] at g1
  have k1 : 0 < Nat.gcd a.toNat b.toNat := Nat.gcd_pos_of_pos_left _ (by omega)
  have k2 : Nat.gcd a.toNat b.toNat ≤ a.toNat := Nat.gcd_le_left _ (by omega)
  have da : ∃ u : Int, a = (Nat.gcd a.toNat b.toNat : Nat) * u := by
    obtain ⟨u, hu⟩ := Nat.gcd_dvd_left a.toNat b.toNat
    exact ⟨(u : Int), by have : ((a.toNat : Nat) : Int) = ((Nat.gcd a.toNat b.toNat * u : Nat) : Int) := congrArg _ hu; rw [Int.toNat_of_nonneg (by omega), Int.natCast_mul] at this; exact this⟩
  have db : ∃ u : Int, b = (Nat.gcd a.toNat b.toNat : Nat) * u := by
    obtain ⟨u, hu⟩ := Nat.gcd_dvd_right a.toNat b.toNat
    exact ⟨(u : Int), by have : ((b.toNat : Nat) : Int) = ((Nat.gcd a.toNat b.toNat * u : Nat) : Int) := congrArg _ hu; rw [Int.toNat_of_nonneg (by omega), Int.natCast_mul] at this; exact this⟩
  generalize Nat.gcd a.toNat b.toNat = K at *
  obtain ⟨r', loop, x, c', s5, s6, ⟨hx, za, zb⟩, rfl⟩ := forD_row (pre0 := lo) (f := q_odd_l1) D.int (fun pre r => ∃ (x : List Int) (c' : Int) (s5 s6 : Slot), (OkE pre x ∧ timesV pre a x = zeroV pre ∧ timesV pre b x = zeroV pre) ∧ r = [.sh (tuI lo), .sh (.int a), .sh (.int b), .sh (.int c'), .ow .flat (liI x), s5, s6]) (ds := lo) (pre := []) (r := [.sh (tuI lo), .sh (.int a), .sh (.int b), .sh (.int c), .ow .flat (liI []), .un, .un]) (fun pre n hpre r ⟨x, c', s5, s6, ⟨hx, za, zb⟩, e⟩ => by
    subst e
    obtain ⟨post, hpost⟩ := hpre
    have hn : n ∈ lo := by rw [← hpost]; simp
    have n2 := g.ok.two n hn
    have n3 := g.most n hn
    have lp : pre.length < 1000 := by
      have := congrArg List.length hpost
      simp at this
      omega
    have g2 := q_shared_ok K n.toNat (by omega)
    rw [Int.toNat_of_nonneg (by omega)] at g2
    have p0 : Nat.gcd K n.toNat ∣ K := Nat.gcd_dvd_left _ _
    have p1 : 0 < Nat.gcd K n.toNat := Nat.gcd_pos_of_pos_left _ (by omega)
    have p2 : Nat.gcd K n.toNat ∣ n.toNat := Nat.gcd_dvd_right _ _
    have p3 : Nat.gcd K n.toNat ≤ n.toNat := Nat.le_of_dvd (by omega) p2
    generalize Nat.gcd K n.toNat = p at *
    obtain ⟨q, hq⟩ := p2
    have hq : n = (p : Int) * (q : Int) := by
      have : ((n.toNat : Nat) : Int) = ((p * q : Nat) : Int) := by rw [hq]
      rw [Int.toNat_of_nonneg (by omega), Int.natCast_mul] at this
      exact this
    have dq : n / (p : Int) = q := by rw [hq]; exact Int.mul_ediv_cancel_left _ (by omega)
    have bp := bits_lt (i := (p : Int)) (n := 8) (by omega) (by omega)
    have dv1 := divD_ok (i := n) (j := (p : Int)) (by omega) (by omega)
    have dv2 := divD_ok (i := c') (j := (p : Int)) (by omega) (by omega)
    have md := modD_ok (i := c') (j := (p : Int)) (by omega)
    have m0 := Int.emod_nonneg c' (b := (p : Int)) (by omega)
    have m1 := Int.emod_lt_of_pos c' (b := (p : Int)) (by omega)
    have q0 : (1 : Int) ≤ q := by
      rcases Nat.eq_zero_or_pos q with h | h
      · subst h; simp at hq; omega
      · omega
    have ql : (q : Int) ≤ n := by
      have : (1 : Int) * q ≤ p * q := Int.mul_le_mul_of_nonneg_right (by omega) (by omega)
      omega
    have ml := mulD_small (i := (q : Int)) (j := c' % (p : Int)) (.inr ⟨by omega, by omega⟩)
    have v0 : 0 ≤ (q : Int) * (c' % p) := Int.mul_nonneg (by omega) m0
    have v1 : (q : Int) * (c' % p) < n := by
      have h1 : (q : Int) * (c' % p) ≤ q * (p - 1) := Int.mul_le_mul_of_nonneg_left (by omega) (by omega)
      have h2 : (q : Int) * (p - 1) = p * q - q := by rw [Int.mul_sub, Int.mul_comm, Int.mul_one]
      omega
    have lx := hx.len
    have hl : x.length < lim := by unfold lim; omega
    rw [dq] at dv1
    have nl : ∀ w : Int, (∃ u : Int, w = (K : Int) * u) → w * ((q : Int) * (c' % p)) % n = 0 := fun w hw => by
      obtain ⟨u, hu⟩ := hw
      obtain ⟨k', hk'⟩ := p0
      apply Int.emod_eq_zero_of_dvd
      refine ⟨(k' : Int) * u * (c' % p), ?_⟩
      have hk2 : (K : Int) = (p : Int) * (k' : Int) := by rw [hk', Int.natCast_mul]
      rw [hu, hk2, hq]
      simp only [Int.mul_assoc, Int.mul_left_comm, Int.mul_comm]
    have na := nil_snoc (n := n) hx.len za (nl a da)
    have nb := nil_snoc (n := n) hx.len zb (nl b db)
    refine ⟨[.sh (tuI lo), .sh (.int a), .sh (.int b), .sh (.int (c' / p)), .ow .flat (liI (x ++ [(q : Int) * (c' % p)])), .sh (.int n), .sh (.int p)], ?_, _, _, _, _, ⟨OkE.snoc hx v0 v1, na, nb⟩, rfl⟩
    generalize (q : Int) * (c' % p) = v at *
    simp [q_odd_l1, g1, g2, appG, ownL, dv1, md, ml, hl, dv2]) rfl ⟨_, _, _, _, ⟨OkE.nil, nil_nil a, nil_nil b⟩, rfl⟩
  simp only [List.nil_append] at loop hx za zb
  refine ⟨x, ⟨hx, za, zb⟩, ?_⟩
  have l0 : 0 ≤ lim := by decide
  have lx := hx.len
  have hl : x.length ≤ lim := by unfold lim; omega
  refine runD_rt rfl ?_
  simp only [startD, N_q_odd, List.length_cons, List.length_nil, List.map_cons, List.map_nil, Nat.reduceAdd, Nat.reduceSub, Nat.zero_add, List.replicate, List.cons_append, List.nil_append]
  rw [show liI [] = D.lst [] from rfl] at loop
  simp [e_q_odd, l0, loop, hl]
theorem OkT.prs_le {lo up : List Int} (t : OkT lo up) : (mems up).length * (mems up).length ≤ 81 := Nat.mul_le_mul t.mems_le t.mems_le
theorem q_size_ok {rs : List Int} (g : OkG rs) : d_q_size [tuI rs] = .ok (.int (rs.foldl (· * ·) 1)) := by
  obtain ⟨r1, lp1, s5, rfl⟩ := forD_row (pre0 := rs) (f := q_size_l1) D.int (fun pre r => ∃ s5, r = [.sh (tuI rs), .sh (.int (pre.foldl (· * ·) 1)), s5]) (ds := rs) (pre := []) (r := [.sh (tuI rs), .sh (.int 1), .un]) (fun pre n hpre r ⟨s5, e⟩ => by
    subst e
    obtain ⟨post, hpost⟩ := hpre
    have hn : n ∈ rs := by rw [← hpost]; simp
    have n2 := g.ok.two n hn
    have n3 := g.most n hn
    have q := mulD_small (i := pre.foldl (· * ·) 1) (j := n) (.inr ⟨by omega, by omega⟩)
    refine ⟨_, ?_, .sh (.int n), rfl⟩
    rw [prod_app]
    simp [q_size_l1, q]) rfl ⟨_, rfl⟩
  simp only [List.nil_append] at lp1
  refine runD_rt rfl ?_
  simp only [startD, N_q_size, List.length_cons, List.length_nil, List.map_cons, List.map_nil, Nat.reduceAdd, Nat.reduceSub, Nat.zero_add, List.replicate, List.cons_append, List.nil_append]
  simp [e_q_size, lp1]
theorem divS {rs : List Int} (g : OkG rs) (i : Int) : divD (.int i) (.int (rs.foldl (· * ·) 1)) = .ok (.int (i / rs.foldl (· * ·) 1)) := by
  have M1 : 1 ≤ rs.foldl (· * ·) 1 := foldl_pos rs 1 (by omega) g.ok.two
  have M2 := g.prod
  exact divD_ok (by omega) (by have := bits_lt (i := rs.foldl (· * ·) 1) (n := 8) (by omega) (by omega); omega)
theorem q_any_ok {lo up : List Int} {n : Int} (t : OkT lo up) : ∃ c, OkC lo up c ∧ d_q_any [tuI lo, tuI up, .int n] = .ok (dicF pkD tuI (prs up) fun p => c p.1 p.2) := by
  have m := q_all_ok t.g2.ok t.g2.most t.g2.prod
  have l81 := t.prs_le
  have l2 := l_two
  have sz := q_size_ok t.g1
  have dv := fun i => divS t.g1 i
  let E (L : List ((List Int × List Int) × List Int)) (c : Int) (s4 s5 : Slot) : Env := [.sh (tuI lo), .sh (tuI up), .sh (.int c), .ow .flat (dicA pkD tuI L), s4, s5]
  obtain ⟨L, r2, lp2, ⟨c', s4, s5, rfl⟩, hk, hv⟩ := fill2 (N := 81) (lo := lo) (up := up) (outer := q_any_l2) (inner := q_any_l1) tuI (fun x => x)
    (fun L r => ∃ (c : Int) (s4 s5 : Slot), r = E L c s4 s5) (fun L a r => ∃ (c : Int) (s5 : Slot), r = E L c (.sh (tuI a)) s5)
    (X := mems up) (L := []) (r := E [] n .un .un) (by simpa using l81) (by simpa using mems_nodup up) (by simp)
    (fun L hL x hx y hy hm r ⟨cv, s5, e⟩ => by
      subst e
      obtain ⟨v, hv, ev⟩ := q_drawn_ok (rs := lo) (c := cv) t.g1.ok t.g1.most
      have sd : setD (dicA pkD tuI L) (.tup [tuI x, tuI y]) (tuI v) = .ok (dicA pkD tuI (setA L (x, y) v)) := setD_A (V := tuI) keyP L (x, y) v (by unfold lim; omega)
      refine ⟨v, E (setA L (x, y) v) (cv / lo.foldl (· * ·) 1) (.sh (tuI x)) (.sh (tuI y)), hv, ?_, _, _, rfl⟩
      simp only [E]
      simp [q_any_l1, setG, ownF, ev, l2, sd, sz, dv])
    (fun L x hx r ⟨cv, s4, s5, e⟩ => by
      subst e
      refine ⟨E L cv (.sh (tuI x)) s5, ⟨_, _, rfl⟩, fun L' r2 e2 ⟨c2, s5', p2⟩ => ⟨r2, ?_, ?_⟩⟩
      · simp only [E] at e2 ⊢
        simp [q_any_l2, m, e2]
      · subst p2
        exact ⟨_, _, _, rfl⟩) ⟨_, _, _, rfl⟩
  simp only [List.nil_append] at *
  have hk : L.map (·.1) = prs up := hk
  obtain ⟨c, hc, e⟩ := toF hk hv
  refine ⟨c, hc, ?_⟩
  rw [← e]
  first | refine runD_rt rfl ?_ | refine runO_rt rfl ?_
  simp only [startD, N_q_any, List.length_cons, List.length_nil, List.map_cons, List.map_nil, Nat.reduceAdd, Nat.reduceSub, Nat.zero_add, List.replicate, List.cons_append, List.nil_append]
  simp only [E] at lp2
  rw [show (dicA pkD tuI ([] : List ((List Int × List Int) × List Int))) = .dic [] [] from rfl] at lp2
  simp [e_q_any, m, lp2, freeze]
  try rfl
theorem step_gen {up : List Int} {i : Nat} {ds : List D} {o : Oc} {a0 a2 a3 a4 a5 a6 a7 : Slot} (l3 : D → Env → Oc) (R : List D → Res (List D)) (ad : addD (.int (i : Nat)) (.int 1) = .ok (.int ((i : Int) + 1))) (ln : one lenD [tuI up] = .ok (.int up.length)) (rl : R [.int ((i : Int) + 1), .int up.length] = .ok ds) (e : forD l3 ds [a0, .sh (tuI up), a2, a3, a4, a5, .sh (.int i), a7] = o) :
  ((into ((nameG 6) (.int i) [a0, .sh (tuI up), a2, a3, a4, a5, a6, a7])).seq fun r => (lift ((((getS 6 r) >>= fun x => (.ok (.int 1)) >>= fun y => addD x y) >>= fun d => ((((getS 1 r) >>= fun d => (.ok []) >>= fun ds => .ok (d :: ds)) >>= one lenD) >>= fun d => (.ok []) >>= fun ds => .ok (d :: ds)) >>= fun ds => .ok (d :: ds)) >>= R) r fun ds => forD l3 ds r)) = o := by
  simp only [into, nameG, nx_seq, getS_succ, getS0, List.set_cons_succ, List.set_cons_zero, ok_bind, ad, ln, rl, lift_ok, e]
theorem parts_l3_step {up : List Int} {i : Nat} {ds : List D} {o : Oc} {a0 a2 a3 a4 a5 a6 a7 : Slot} (rl : rng2 [.int ((i : Int) + 1), .int up.length] = .ok ds) (e : forD q_parts_l2 ds [a0, .sh (tuI up), a2, a3, a4, a5, .sh (.int i), a7] = o) : q_parts_l3 (.int i) [a0, .sh (tuI up), a2, a3, a4, a5, a6, a7] = o := by
  unfold q_parts_l3
  exact step_gen q_parts_l2 rng2 (by simp) (by simp) rl e
theorem q_parts_ok {lo up : List Int} {n : Int} (t : OkT lo up) : ∃ ps L, OkP lo up ps L ∧ OkQ lo up L ∧ d_q_parts [tuI lo, tuI up, .int n] = .ok (.tup [.lst (ps.map tuI), dicA nnD tuI L]) := by
  have sz := q_size_ok t.g1
  have dv := fun i => divS t.g1 i
  have l7 := t.g2.ok.len
  have l2 := l_two
  obtain ⟨r1, lp1, ps, c1, s4, hlen, hps, rfl⟩ := forD_row (pre0 := up) (f := q_parts_l1) D.int (fun pre r => ∃ (ps : List (List Int)) (c : Int) (s4 : Slot), ps.length = pre.length ∧ (∀ p ∈ ps, OkE lo p) ∧ r = [.sh (tuI lo), .sh (tuI up), .sh (.int c), .ow .flat (.lst (ps.map tuI)), s4, .un, .un, .un]) (ds := up) (pre := []) (r := [.sh (tuI lo), .sh (tuI up), .sh (.int n), .ow .flat (.lst ([].map tuI)), .un, .un, .un, .un]) (fun pre k hpre r ⟨ps, c, s4, hl, hp, e⟩ => by
    subst e
    obtain ⟨post, hpost⟩ := hpre
    have := congrArg List.length hpost
    simp at this
    obtain ⟨v, hv, ev⟩ := q_drawn_ok (rs := lo) (c := c) t.g1.ok t.g1.most
    have ll : ps.length < lim := by unfold lim; omega
    refine ⟨_, ?_, ps ++ [v], c / lo.foldl (· * ·) 1, .sh (.int k), by simp [hl], fun p h => ?_, rfl⟩
    · simp [q_parts_l1, appG, ownL, ev, ll, sz, dv]
    · rcases List.mem_append.mp h with z | z
      · exact hp p z
      · rw [List.mem_singleton.mp z]; exact hv) rfl ⟨[], n, .un, rfl, (fun _ h => nomatch h), rfl⟩
  simp only [List.nil_append, List.map_nil] at lp1
  let E (L : List ((Nat × Nat) × List Int)) (c : Int) (s6 s7 : Slot) : Env := [.sh (tuI lo), .sh (tuI up), .sh (.int c), .ow .flat (.lst (ps.map tuI)), s4, .ow .flat (dicA nnD tuI L), s6, s7]
  obtain ⟨r2, lp2, L, c2, s6, s7, hk, hv, rfl⟩ := forD_row (pre0 := List.range up.length) (f := q_parts_l3) (fun i : Nat => D.int i) (fun done r => ∃ (L : List ((Nat × Nat) × List Int)) (c : Int) (s6 s7 : Slot), L.map (·.1) = done.flatMap (placeRow up.length) ∧ (∀ q ∈ L, OkE lo q.2 ∧ timesV lo (up.getD q.1.1 0) q.2 = zeroV lo ∧ timesV lo (up.getD q.1.2 0) q.2 = zeroV lo) ∧ r = E L c s6 s7) (ds := List.range up.length) (pre := []) (r := E [] c1 .un .un) (fun done i hd r ⟨L, c, s6, s7, hk, hv, e⟩ => by
    subst e
    obtain ⟨rest, hr⟩ := hd
    have hi : i < up.length := List.mem_range.mp (by rw [← hr]; simp)
    have nd : i ∉ done := by
      have := List.nodup_range (n := up.length)
      rw [← hr, List.nodup_append] at this
      have := this.1
      rw [List.nodup_append] at this
      exact fun h => this.2.2 i h i (by simp) rfl
    have hdl : done.length ≤ 7 := by
      have := congrArg List.length hr
      simp at this
      omega
    have hLl : L.length ≤ 49 := by
      have := congrArg List.length hk
      rw [List.length_map, List.length_flatMap] at this
      have e : ∀ l : List Nat, (l.map fun a => (placeRow up.length a).length).sum ≤ l.length * 7 := fun l => by
        induction l with
        | nil => simp
        | cons a l ih =>
          rw [List.map_cons, List.sum_cons, List.length_cons, Nat.succ_mul]
          have : (placeRow up.length a).length ≤ 7 := by unfold placeRow; simp; omega
          omega
      have := e done
      omega
    have rl : rng2 [.int ((i : Int) + 1), .int up.length] = .ok ((placeRow up.length i).map fun p => D.int (p.2 : Nat)) := by
      rw [rng2_ok (by omega) (by omega) (by omega) (by omega)]
      have : ((up.length : Int) - ((i : Int) + 1)).toNat = up.length - (i + 1) := by omega
      rw [this]
      unfold rangeL placeRow
      rw [List.map_map]
      refine congrArg Res.ok (List.map_congr_left fun k _ => ?_)
      show D.int ((i : Int) + 1 + (k : Int)) = D.int ((i + 1 + k : Nat) : Int)
      rw [Int.natCast_add, Int.natCast_add]
      rfl
    have pl : (placeRow up.length i).length ≤ 7 := by unfold placeRow; simp; omega
    obtain ⟨L', r3, e3, ⟨c3, s7', p3⟩, k3, v3⟩ := fillKQ (N := 100) (Q := fun k v => OkE lo v ∧ timesV lo (up.getD k.1 0) v = zeroV lo ∧ timesV lo (up.getD k.2 0) v = zeroV lo) (f := q_parts_l2) (fun p : Nat × Nat => D.int (p.2 : Nat)) (fun p => p) (fun L r => ∃ (c : Int) (s7 : Slot), r = E L c (.sh (.int i)) s7)
      (X := placeRow up.length i) (L := L) (r := E L c (.sh (.int i)) s7) (by omega) (by simpa using placeRow_nodup up.length i) (fun a ha hm => by
        rw [hk] at hm
        obtain ⟨j, hj, hm⟩ := List.mem_flatMap.mp hm
        unfold placeRow at ha hm
        obtain ⟨_, _, e1⟩ := List.mem_map.mp ha
        obtain ⟨_, _, e2⟩ := List.mem_map.mp hm
        have : j = i := by rw [← e1] at e2; exact (Prod.mk.inj e2).1
        exact nd (this ▸ hj))
      (fun L hL p hp hm r ⟨c, s7, e⟩ => by
        subst e
        obtain ⟨k, hk, rfl⟩ := List.mem_map.mp hp
        have hk := List.mem_range.mp hk
        have e1 := ixD_tI (xs := up) (i := i) hi
        have e2 := ixD_tI (xs := up) (i := i + 1 + k) (by omega)
        have u1 := up_at t (i := i) (by omega)
        have u2 := up_at t (i := i + 1 + k) (by omega)
        have w1 := t.g2.ok.get (i := i) (by omega)
        have w2 := t.g2.ok.get (i := i + 1 + k) (by omega)
        obtain ⟨v, hv, ev⟩ := q_odd_ok (a := up.getD i 0) (b := up.getD (i + 1 + k) 0) (c := c) t.g1 (by omega) (by omega) (by omega) (by omega)
        have sd : setD (dicA nnD tuI L) (.tup [.int (i : Nat), .int ((i + 1 + k : Nat) : Int)]) (tuI v) = .ok (dicA nnD tuI (setA L (i, i + 1 + k) v)) := setD_A (V := tuI) keyNN L (i, i + 1 + k) v (by unfold lim; omega)
        refine ⟨v, E (setA L (i, i + 1 + k) v) (c / lo.foldl (· * ·) 1) (.sh (.int i)) (.sh (.int ((i + 1 + k : Nat) : Int))), hv, ?_, _, _, rfl⟩
        simp only [E]
        generalize hj : i + 1 + k = j at *
        simp [-ixD_tup, -List.getD_eq_getElem?_getD, q_parts_l2, setG, ownF, e1, e2, ev, sd, l2, sz, dv]) ⟨_, _, rfl⟩
    subst p3
    refine ⟨_, ?_, L ++ L', c3, .sh (.int i), s7', ?_, fun q hq => ?_, rfl⟩
    · simp only [E] at e3 ⊢
      generalize (placeRow up.length i).map (fun p => D.int (p.2 : Nat)) = ds at rl e3
      exact parts_l3_step rl e3
    · rw [List.map_append, hk, k3, List.flatMap_append]
      simp
    · rcases List.mem_append.mp hq with z | z
      · exact hv q z
      · exact v3 q z) (by simp) ⟨[], c1, .un, .un, rfl, (fun _ h => nomatch h), rfl⟩
  simp only [List.nil_append] at lp2 hk hlen
  refine ⟨ps, L, ⟨hlen, fun k hk => ?_, hk, fun q hq => (hv q hq).1⟩, fun q hq => (hv q hq).2, ?_⟩
  · have e : ps[k]? = some (ps.getD k []) := by rw [List.getD_eq_getElem?_getD, List.getElem?_eq_getElem (by omega)]; rfl
    exact hps _ (List.mem_of_getElem? e)
  · have r1 : rng1 [.int up.length] = .ok (rangeL 0 up.length) := by rw [rng1_ok (by omega) (by omega)]; simp
    rw [← rangeL_nat] at lp2
    have l0 : 0 ≤ lim := by decide
    refine runD_rt rfl ?_
    simp only [startD, N_q_parts, List.length_cons, List.length_nil, List.map_cons, List.map_nil, Nat.reduceAdd, Nat.reduceSub, Nat.zero_add, List.replicate, List.cons_append, List.nil_append]
    simp only [E] at lp2
    rw [show (dicA nnD tuI ([] : List ((Nat × Nat) × List Int))) = .dic [] [] from rfl] at lp2
    simp [e_q_parts, l0, lp1, r1, lp2, freeze, l2]
theorem tableC_ok {lo up : List Int} {c : List Int → List Int → List Int} (t : OkT lo up) (hc : OkC lo up c) : d_Table_init [gR lo, gR up, dicF pkD tuI (prs up) fun p => c p.1 p.2] = .ok (tabD lo up c) :=
  table_ok t _ fun x y hx hy => by
    have hm : (x, y) ∈ prs up := mem_prs.mpr ⟨mem_mems.mpr hx, mem_mems.mpr hy⟩
    refine ⟨?_, ixD_A (V := tuI) keyP _ (x, y) (lookA_map (fun p => c p.1 p.2) hm), hc x y hx hy⟩
    rw [notInD_A keyP, hasA_map]
    simp [hm]
theorem neD_F {α : Type} [DecidableEq α] {E : α → D} {Q : α → NestedKey} (K : KeyE E Q) (l : List α) (f g : α → List Int) : neD (dicF E tuI l f) (dicF E tuI l g) = .ok (.bl (!decide (∀ a ∈ l, f a = g a))) := by
  have e1 := eqD_A K (l.map fun x => (x, f x)) (l.map fun x => (x, g x))
  have e2 := eqD_F K l f g
  have e3 := e1.symm.trans e2
  injection e3 with e3
  injection e3 with e3
  rw [← e3]
  exact neD_A K _ _
noncomputable def cD (up : List Int) (c : List Int → List Int → List Int) : D := dicF pkD tuI (prs up) fun p => c p.1 p.2
theorem neD_cD (up : List Int) (c : List Int → List Int → List Int) : neD (cD up c) (cD up c) = .ok (.bl false) := by
  have e := neD_F keyP (prs up) (fun p => c p.1 p.2) (fun p => c p.1 p.2)
  simp only [implies_true, decide_true, Bool.not_true] at e
  exact e
theorem eqD_cD (up : List Int) (c : List Int → List Int → List Int) : eqD (cD up c) (cD up c) = .ok (.bl true) := by
  have e := eqD_F keyP (prs up) (fun p => c p.1 p.2) (fun p => c p.1 p.2)
  simp only [implies_true, decide_true] at e
  exact e
noncomputable def lows33 : List (List Int) := [[2], [4], [3], [2, 2], [6], [8], [2, 4], [9], [12], [3, 3], [2, 6], [], [5], [2, 2, 2], [16], [4, 4]]
noncomputable def ups33 : List (List Int) := [[2], [3], [2, 2], [4], [], [2, 3], [6], [5], [2, 2], [4], [2, 2, 2], [3, 3], [2, 4], [8], [9], [7]]
theorem low33 : ∀ rs ∈ lows33, OkG rs ∧ rs.foldl (· * ·) 1 ≤ 16 := by
  intro rs h
  have d : ∀ rs ∈ lows33, (∀ n ∈ rs, 2 ≤ n) ∧ rs.length ≤ 7 ∧ (∀ n ∈ rs, n ≤ 144) ∧ rs.foldl (· * ·) 1 ≤ 16 := by decide +kernel
  obtain ⟨a, b, c, e⟩ := d rs h
  exact ⟨⟨⟨a, b⟩, c, by omega⟩, e⟩
theorem up33 : ∀ rs ∈ ups33, OkG rs ∧ rs.foldl (· * ·) 1 ≤ 9 := by
  intro rs h
  have d : ∀ rs ∈ ups33, (∀ n ∈ rs, 2 ≤ n) ∧ rs.length ≤ 7 ∧ (∀ n ∈ rs, n ≤ 144) ∧ rs.foldl (· * ·) 1 ≤ 9 := by decide +kernel
  obtain ⟨a, b, c, e⟩ := d rs h
  exact ⟨⟨⟨a, b⟩, c, by omega⟩, e⟩
theorem okT33 {lo up : List Int} (h1 : lo ∈ lows33) (h2 : up ∈ ups33) : OkT lo up := ⟨(low33 lo h1).1, (up33 up h2).1, (low33 lo h1).2, (up33 up h2).2⟩
theorem ixD_at {xs : List D} (i : Int) (h1 : 0 ≤ i) (h2 : i < (xs.length : Nat)) : ∃ d, d ∈ xs ∧ ixD (.lst xs) (.int i) = .ok d := by
  have hl : i.toNat < xs.length := by omega
  refine ⟨xs[i.toNat], List.getElem_mem hl, ?_⟩
  rw [ixD_lst, atI_int xs _ h1 (by omega), List.getElem?_eq_getElem hl]
theorem q_roundsM_ok (c : Int) {m : Int} (m0 : 0 < m) (m1 : m ≤ 16) : ∃ lo up, lo ∈ lows33 ∧ up ∈ ups33 ∧ d_q_rounds [.int c, .int m] = .ok (.tup [tuI lo, tuI up]) := by
  obtain ⟨d1, h1, p1⟩ := ixD_pick (xs := lows33.map tuI) c 16 rfl (by omega)
  have q0 := Int.emod_nonneg (c / 16) (b := m) (by omega)
  have q1 := Int.emod_lt_of_pos (c / 16) m0
  have ul : (ups33.map tuI).length = 16 := rfl
  obtain ⟨d2, h2, p2⟩ := ixD_at (xs := ups33.map tuI) (c / 16 % m) q0 (by omega)
  obtain ⟨lo, hlo, rfl⟩ := List.mem_map.mp h1
  obtain ⟨up, hup, rfl⟩ := List.mem_map.mp h2
  refine ⟨lo, up, hlo, hup, ?_⟩
  have md1 := modD_ok (i := c) (j := 16) (by omega)
  have md2 := modD_ok (i := c / 16) (j := m) m0
  have dv := divD_ok (i := c) (j := 16) (by omega) (by decide)
  have p1 : ixD (.lst [.tup [.int 2], .tup [.int 4], .tup [.int 3], .tup [.int 2, .int 2], .tup [.int 6], .tup [.int 8], .tup [.int 2, .int 4], .tup [.int 9], .tup [.int 12], .tup [.int 3, .int 3], .tup [.int 2, .int 6], .tup [], .tup [.int 5], .tup [.int 2, .int 2, .int 2], .tup [.int 16], .tup [.int 4, .int 4]]) (.int (c % 16)) = .ok (tuI lo) := p1
  have p2 : ixD (.lst [.tup [.int 2], .tup [.int 3], .tup [.int 2, .int 2], .tup [.int 4], .tup [], .tup [.int 2, .int 3], .tup [.int 6], .tup [.int 5], .tup [.int 2, .int 2], .tup [.int 4], .tup [.int 2, .int 2, .int 2], .tup [.int 3, .int 3], .tup [.int 2, .int 4], .tup [.int 8], .tup [.int 9], .tup [.int 7]]) (.int (c / 16 % m)) = .ok (tuI up) := p2
  have l1 : 1 ≤ lim := by decide
  have l2 : 2 ≤ lim := by decide
  have l3 : 3 ≤ lim := by decide
  have l0 : 0 ≤ lim := by decide
  have l8 : 8 ≤ lim := by decide
  have l16 : 16 ≤ lim := by decide
  refine runD_rt rfl ?_
  simp only [startD, N_q_rounds, List.length_cons, List.length_nil, List.map_cons, List.map_nil, Nat.reduceAdd, Nat.reduceSub, Nat.zero_add, List.replicate, List.cons_append, List.nil_append]
  simp [-ixD_lst, e_q_rounds, l0, l1, l2, l3, l8, l16, addD_lst, md1, md2, dv, p1, p2]
theorem zero_ok' {lo : List Int} : (lo.map fun _ => D.int 0) = (zeroV lo).map D.int := by unfold zeroV; rw [List.map_map]; rfl
theorem q_carry_ok {lo up x y : List Int} {ps : List (List Int)} {L : List ((Nat × Nat) × List Int)} (t : OkT lo up) (h : OkP lo up ps L) (hx : OkE up x) (hy : OkE up y) : OkE lo (carryV lo up ps L x y) ∧ d_q_carry [tuI lo, tuI up, .tup [.lst (ps.map tuI), dicA nnD tuI L], tuI x, tuI y] = .ok (tuI (carryV lo up ps L x y)) := by
  have l7 := t.g2.ok.len
  have l77 := t.g1.ok.len
  have l2 := l_two
  generalize hT : D.tup [.lst (ps.map tuI), dicA nnD tuI L] = T
  have x0 : ixD T (.int 0) = .ok (.lst (ps.map tuI)) := by rw [← hT]; rfl
  have x1 : ixD T (.int 1) = .ok (dicA nnD tuI L) := by rw [← hT]; rfl
  have c1 : q_carry_c1 [.sh (tuI lo), .sh (tuI up), .sh T, .sh (tuI x), .sh (tuI y), .un, .un, .un, .un, .un] (lo.map D.int) = .ok ((zeroV lo).map D.int) := by
    unfold q_carry_c1
    rw [← zero_ok']
    exact lcD_ints (fun _ => D.int 0) fun a ha => ⟨rfl, rfl⟩
  obtain ⟨r1, lp1, s6, he1, rfl⟩ := forD_row (pre0 := List.range up.length) (f := q_carry_l2) (fun i : Nat => D.int i) (fun done r => ∃ s6, OkE lo (done.foldl (fun f k => if up.getD k 0 ≤ x.getD k 0 + y.getD k 0 then putV lo f (ps.getD k []) else f) (zeroV lo)) ∧ r = [.sh (tuI lo), .sh (tuI up), .sh T, .sh (tuI x), .sh (tuI y), .sh (tuI (done.foldl (fun f k => if up.getD k 0 ≤ x.getD k 0 + y.getD k 0 then putV lo f (ps.getD k []) else f) (zeroV lo))), s6, .un, .un, .un]) (ds := List.range up.length) (pre := []) (r := [.sh (tuI lo), .sh (tuI up), .sh T, .sh (tuI x), .sh (tuI y), .sh (tuI (zeroV lo)), .un, .un, .un, .un]) (fun done i hd r ⟨s6, he, e⟩ => by
    subst e
    obtain ⟨rest, hr⟩ := hd
    have hi : i < up.length := List.mem_range.mp (by rw [← hr]; simp)
    have e1 := ixD_tI (xs := x) (i := i) (by rw [hx.len]; exact hi)
    have e3 := ixD_tI (xs := y) (i := i) (by rw [hy.len]; exact hi)
    have e2 := ixD_tI (xs := up) (i := i) hi
    have e4 := ixD_els (ps := ps) (k := i) (by rw [h.len]; exact hi)
    have hp := h.ps i hi
    rw [List.foldl_append, List.foldl_cons, List.foldl_nil]
    generalize (done.foldl (fun f k => if up.getD k 0 ≤ x.getD k 0 + y.getD k 0 then putV lo f (ps.getD k []) else f) (zeroV lo)) = v at *
    have sm := q_sum_ok (x := v) (y := ps.getD i []) t.g1.ok he.len hp.len
    by_cases ov : up.getD i 0 ≤ x.getD i 0 + y.getD i 0
    · rw [if_pos ov]
      refine ⟨_, ?_, .sh (.int i), put_el t.g1.ok he.len hp.len, rfl⟩
      simp [-ixD_tup, -ixD_lst, -List.getD_eq_getElem?_getD, q_carry_l2, e1, e2, e3, e4, ov, x0, sm]
    · rw [if_neg ov]
      refine ⟨_, ?_, .sh (.int i), he, rfl⟩
      simp [-ixD_tup, -ixD_lst, -List.getD_eq_getElem?_getD, q_carry_l2, e1, e2, e3, ov]) (by simp) ⟨_, zero_el t.g1.ok, rfl⟩
  simp only [List.nil_append] at lp1 he1
  obtain ⟨r2, lp2, s7, s8, he2, rfl⟩ := forD_row (pre0 := L) (f := q_carry_l3) (fun q : (Nat × Nat) × List Int => nnD q.1) (fun done r => ∃ s7 s8, OkE lo (done.foldl (fun f q => putV lo f (timesV lo (x.getD q.1.1 0 * y.getD q.1.2 0) q.2)) ((List.range up.length).foldl (fun f k => if up.getD k 0 ≤ x.getD k 0 + y.getD k 0 then putV lo f (ps.getD k []) else f) (zeroV lo))) ∧ r = [.sh (tuI lo), .sh (tuI up), .sh T, .sh (tuI x), .sh (tuI y), .sh (tuI (done.foldl (fun f q => putV lo f (timesV lo (x.getD q.1.1 0 * y.getD q.1.2 0) q.2)) ((List.range up.length).foldl (fun f k => if up.getD k 0 ≤ x.getD k 0 + y.getD k 0 then putV lo f (ps.getD k []) else f) (zeroV lo)))), s6, s7, s8, .un]) (ds := L) (pre := []) (r := [.sh (tuI lo), .sh (tuI up), .sh T, .sh (tuI x), .sh (tuI y), .sh (tuI ((List.range up.length).foldl (fun f k => if up.getD k 0 ≤ x.getD k 0 + y.getD k 0 then putV lo f (ps.getD k []) else f) (zeroV lo))), s6, .un, .un, .un]) (fun done q hd r ⟨s7, s8, he, e⟩ => by
    subst e
    obtain ⟨rest, hr⟩ := hd
    have hq : q ∈ L := by rw [← hr]; simp
    obtain ⟨b1, b2⟩ := h.at_ hq
    obtain ⟨⟨i, j⟩, a⟩ := q
    have b1 : i < j := b1
    have b2 : j < up.length := b2
    have ha : OkE lo a := h.val _ hq
    have gn : (L.map (·.1)).Nodup := by rw [h.key]; exact placePairs_nodup _
    have gt := ixD_A (V := tuI) keyNN L (i, j) (lookA_mem gn hq)
    have gt : ixD (dicA nnD tuI L) (.tup [.int i, .int j]) = .ok (tuI a) := gt
    have e1 := ixD_tI (xs := x) (i := i) (by rw [hx.len]; omega)
    have e3 := ixD_tI (xs := y) (i := j) (by rw [hy.len]; omega)
    obtain ⟨c1, c2⟩ := hx.get (i := i) (by omega)
    obtain ⟨c3, c4⟩ := hy.get (i := j) b2
    have b5 := up_at t (i := i) (by omega)
    have b6 := up_at t b2
    have ml := mulD_small (i := x.getD i 0) (j := y.getD j 0) (.inr ⟨by omega, by omega⟩)
    have tm := q_times_ok (n := x.getD i 0 * y.getD j 0) t.g1.ok ha t.g1.most
    have tl := timesV_el (n := x.getD i 0 * y.getD j 0) t.g1.ok ha
    rw [List.foldl_append, List.foldl_cons, List.foldl_nil]
    generalize (done.foldl (fun f q => putV lo f (timesV lo (x.getD q.1.1 0 * y.getD q.1.2 0) q.2)) ((List.range up.length).foldl (fun f k => if up.getD k 0 ≤ x.getD k 0 + y.getD k 0 then putV lo f (ps.getD k []) else f) (zeroV lo))) = v at *
    have sm := q_sum_ok (x := v) (y := timesV lo (x.getD i 0 * y.getD j 0) a) t.g1.ok he.len tl.len
    refine ⟨[.sh (tuI lo), .sh (tuI up), .sh T, .sh (tuI x), .sh (tuI y), .sh (tuI (putV lo v (timesV lo (x.getD i 0 * y.getD j 0) a))), s6, .sh (.int i), .sh (.int j), .un], ?_, .sh (.int i), .sh (.int j), put_el t.g1.ok he.len tl.len, rfl⟩
    generalize timesV lo (x.getD i 0 * y.getD j 0) a = w at *
    simp [-ixD_tup, -ixD_lst, -List.getD_eq_getElem?_getD, q_carry_l3, e1, e3, x1, l2, gt, ml, tm, sm]) rfl ⟨_, _, he1, rfl⟩
  simp only [List.nil_append] at lp2 he2
  refine ⟨he2, ?_⟩
  have r1 : rng1 [.int up.length] = .ok (rangeL 0 up.length) := by rw [rng1_ok (by omega) (by omega)]; simp
  rw [← rangeL_nat] at lp1
  have lz : (zeroV lo).length ≤ lim := by unfold zeroV lim; simp; omega
  have it : itemsD (dicA nnD tuI L) = .ok (L.map fun q => nnD q.1) := rfl
  refine runD_rt rfl ?_
  simp only [startD, N_q_carry, List.length_cons, List.length_nil, List.map_cons, List.map_nil, Nat.reduceAdd, Nat.reduceSub, Nat.zero_add, List.replicate, List.cons_append, List.nil_append]
  unfold carryV
  simp [-itemsD_A, -ixD_tup, -ixD_lst, -List.getD_eq_getElem?_getD, e_q_carry, c1, lz, r1, lp1, x1, it, lp2]
theorem q_own_ok {lo up x y : List Int} {H : D} {hf : List Int → List Int} (t : OkT lo up) (hh : ∀ x, OkE up x → OkE lo (hf x) ∧ ixD H (tuI x) = .ok (tuI (hf x))) (hx : OkE up x) (hy : OkE up y) : OkE lo (ownV lo up hf x y) ∧ d_q_own [tuI lo, tuI up, H, tuI x, tuI y] = .ok (tuI (ownV lo up hf x y)) := by
  obtain ⟨vx, ex⟩ := hh x hx
  obtain ⟨vy, ey⟩ := hh y hy
  obtain ⟨vz, ez⟩ := hh _ (put_el t.g2.ok hx.len hy.len)
  have s0 := q_sum_ok (x := x) (y := y) t.g2.ok hx.len hy.len
  have s1 := q_sum_ok (x := hf x) (y := hf y) t.g1.ok vx.len vy.len
  have tm := q_times_ok (n := -1) t.g1.ok vz t.g1.most
  have tl := timesV_el (n := -1) t.g1.ok vz
  have p1 := put_el t.g1.ok vx.len vy.len
  have s2 := q_sum_ok (x := putV lo (hf x) (hf y)) (y := timesV lo (-1) (hf (putV up x y))) t.g1.ok p1.len tl.len
  refine ⟨put_el t.g1.ok p1.len tl.len, ?_⟩
  refine runD_rt rfl ?_
  simp only [startD, N_q_own, List.length_cons, List.length_nil, List.map_cons, List.map_nil, Nat.reduceAdd, Nat.reduceSub, Nat.zero_add, List.replicate, List.cons_append, List.nil_append]
  unfold ownV
  simp [e_q_own, ex, ey, ez, s0, s1, s2, tm]
theorem q_carries_ok {lo up : List Int} {H : D} {hf : List Int → List Int} {ps : List (List Int)} {L : List ((Nat × Nat) × List Int)} (t : OkT lo up) (h : OkP lo up ps L) (hh : ∀ x, OkE up x → OkE lo (hf x) ∧ ixD H (tuI x) = .ok (tuI (hf x))) : OkC lo up (wholeV lo up ps L hf) ∧ d_q_carries [tuI lo, tuI up, .tup [.lst (ps.map tuI), dicA nnD tuI L], H] = .ok (dicF pkD tuI (prs up) fun p => wholeV lo up ps L hf p.1 p.2) := by
  have m := q_all_ok t.g2.ok t.g2.most t.g2.prod
  have l81 := t.prs_le
  have l2 := l_two
  have cv := fun (x y : List Int) (hx : OkE up x) (hy : OkE up y) => q_carry_ok t h hx hy
  have ov := fun (x y : List Int) (hx : OkE up x) (hy : OkE up y) => q_own_ok t hh hx hy
  generalize D.tup [.lst (ps.map tuI), dicA nnD tuI L] = T at *
  refine ⟨fun x y hx hy => put_el t.g1.ok (cv x y hx hy).1.len (ov x y hx hy).1.len, ?_⟩
  let E (L : List ((List Int × List Int) × List Int)) (s5 s6 s7 : Slot) : Env := [.sh (tuI lo), .sh (tuI up), .sh T, .sh H, .ow .flat (dicA pkD tuI L), s5, s6, s7]
  obtain ⟨L1, r2, lp2, ⟨s5, s6, s7, rfl⟩, hk, hv⟩ := fill2Q (N := 81) (Q := fun p v => v = wholeV lo up ps L hf p.1 p.2) (up := up) (outer := q_carries_l2) (inner := q_carries_l1) tuI (fun x => x)
    (fun L r => ∃ s5 s6 s7, r = E L s5 s6 s7) (fun L a r => ∃ s6 s7, r = E L (.sh (tuI a)) s6 s7)
    (X := mems up) (L := []) (r := E [] .un .un .un) (by simpa using l81) (by simpa using mems_nodup up) (by simp)
    (fun K hL x hx y hy hm r ⟨s6, s7, e⟩ => by
      subst e
      obtain ⟨k1, k2⟩ := cv x y (mem_mems.mp hx) (mem_mems.mp hy)
      obtain ⟨k3, k4⟩ := ov x y (mem_mems.mp hx) (mem_mems.mp hy)
      have sm := q_sum_ok (x := carryV lo up ps L x y) (y := ownV lo up hf x y) t.g1.ok k1.len k3.len
      have sd : setD (dicA pkD tuI K) (.tup [tuI x, tuI y]) (tuI (wholeV lo up ps L hf x y)) = .ok (dicA pkD tuI (setA K (x, y) (wholeV lo up ps L hf x y))) := setD_A (V := tuI) keyP K (x, y) (wholeV lo up ps L hf x y) (by unfold lim; omega)
      refine ⟨wholeV lo up ps L hf x y, E (setA K (x, y) (wholeV lo up ps L hf x y)) (.sh (tuI x)) (.sh (tuI y)) (.sh (tuI (carryV lo up ps L x y))), rfl, ?_, _, _, rfl⟩
      unfold wholeV at sd ⊢
      generalize carryV lo up ps L x y = c at *
      generalize ownV lo up hf x y = o at *
      simp only [E]
      simp [q_carries_l1, setG, ownF, k2, k4, sm, l2, sd])
    (fun K x hx r ⟨s5, s6, s7, e⟩ => by
      subst e
      refine ⟨E K (.sh (tuI x)) s6 s7, ⟨_, _, rfl⟩, fun L' r2 e2 ⟨s6', s7', p2⟩ => ⟨r2, ?_, ?_⟩⟩
      · simp only [E] at e2 ⊢
        simp [q_carries_l2, m, e2]
      · subst p2
        exact ⟨_, _, _, rfl⟩) ⟨_, _, _, rfl⟩
  simp only [List.nil_append] at lp2 hk hv
  have hv' : ∀ p ∈ L1, p.2 = wholeV lo up ps L hf p.1.1 p.1.2 := fun p hp => hv p hp
  have e := byRule (L := L1) (g := fun p : List Int × List Int => wholeV lo up ps L hf p.1 p.2) hv'
  rw [show L1.map (fun p => p.1) = prs up from hk] at e
  show _ = Res.ok (dicA pkD tuI ((prs up).map fun p => (p, wholeV lo up ps L hf p.1 p.2)))
  generalize (prs up).map (fun p => (p, wholeV lo up ps L hf p.1 p.2)) = M at e ⊢
  subst e
  first | refine runD_rt rfl ?_ | refine runO_rt rfl ?_
  simp only [startD, N_q_carries, List.length_cons, List.length_nil, List.map_cons, List.map_nil, Nat.reduceAdd, Nat.reduceSub, Nat.zero_add, List.replicate, List.cons_append, List.nil_append]
  simp only [E] at lp2
  rw [show (dicA pkD tuI ([] : List ((List Int × List Int) × List Int))) = .dic [] [] from rfl] at lp2
  simp [e_q_carries, m, lp2, freeze]
  try rfl
/-- a dict of labels -/
noncomputable def Lab (lo up : List Int) (H : D) (hf : List Int → List Int) : Prop := ∀ x, OkE up x → OkE lo (hf x) ∧ ixD H (tuI x) = .ok (tuI (hf x)) ∧ notInD (tuI x) H = .ok (.bl false)
theorem lab_F {lo up : List Int} {hf : List Int → List Int} (h : ∀ x, OkE up x → OkE lo (hf x)) : Lab lo up (dicA tuI tuI ((mems up).map fun x => (x, hf x))) hf := fun x hx => by
  have hm := mem_mems.mpr hx
  refine ⟨h x hx, ixD_A (V := tuI) keyE _ x (lookA_map hf hm), ?_⟩
  rw [notInD_A keyE, hasA_map]
  simp [hm]
/-- .. as the program looks at it: a last number may stand there, too -/
noncomputable def LabM (lo up : List Int) (H : D) (hf : List Int → List Int) : Prop := ∀ x, OkE up x → OkE lo (hf x) ∧ ixM H (tuI x) = .ok (tuI (hf x)) ∧ notInM (tuI x) H = .ok (.bl false)
theorem labels_of_ok {lo up : List Int} {H : D} {hf : List Int → List Int} (t : OkT lo up) (h : LabM lo up H hf) : ∃ H', Lab lo up H' hf ∧ d_labels_of [gR lo, gR up, H] = .ok H' := by
  have m := members_ok t.g2.ok t.g2.most t.g2.prod
  have l9 := t.mems_le
  let E (L : List (List Int × List Int)) (s4 : Slot) : Env := [.sh (gR lo), .sh (gR up), .sh H, .ow .flat (dicA tuI tuI L), s4]
  obtain ⟨L, r2, lp2, ⟨s4, rfl⟩, hk, hv⟩ := fillKQ (N := 9) (Q := fun x v => v = hf x) (f := labels_of_l1) tuI (fun x : List Int => x) (fun L r => ∃ (s4 : Slot), r = E L s4)
    (X := mems up) (L := []) (r := E [] .un) (by simpa using l9) (by simpa using mems_nodup up) (by simp)
    (fun L hL x hx hm r ⟨s4, e⟩ => by
      subst e
      obtain ⟨q1, q2, q3⟩ := h x (mem_mems.mp hx)
      have hh := has_ok q1
      have sd : setD (dicA tuI tuI L) (tuI x) (tuI (hf x)) = .ok (dicA tuI tuI (setA L x (hf x))) := setD_A (V := tuI) keyE L x (hf x) (by unfold lim; omega)
      refine ⟨hf x, E (setA L x (hf x)) (.sh (tuI x)), rfl, ?_, _, rfl⟩
      simp only [E]
      generalize hf x = v at *
      simp [labels_of_l1, setG, ownF, mthD, mt_has, q2, q3, hh, sd]) ⟨_, rfl⟩
  simp only [List.nil_append] at *
  have hk : L.map (·.1) = mems up := by simpa using hk
  have gn : (L.map (·.1)).Nodup := by rw [hk]; exact mems_nodup up
  have hv' : ∀ p ∈ L, p.2 = hf p.1 := fun p hp => hv p hp
  have e := byRule (L := L) (g := hf) hv'
  rw [show L.map (fun p => p.1) = mems up from hk] at e
  refine ⟨dicA tuI tuI L, ?_, ?_⟩
  · rw [e]
    exact lab_F fun x hx => (h x hx).1
  · first | refine runD_rt rfl ?_ | refine runO_rt rfl ?_
    simp only [startD, N_labels_of, List.length_cons, List.length_nil, List.map_cons, List.map_nil, Nat.reduceAdd, Nat.reduceSub, Nat.zero_add, List.replicate, List.cons_append, List.nil_append]
    simp only [E] at lp2
    rw [show (dicA tuI tuI ([] : List (List Int × List Int))) = .dic [] [] from rfl] at lp2
    simp [e_labels_of, mthD, mt_members, m, lp2, freeze]
    try rfl
theorem own_carry_ok {lo up x y : List Int} {H : D} {hf : List Int → List Int} (t : OkT lo up) (h : Lab lo up H hf) (hx : OkE up x) (hy : OkE up y) : OkE lo (ownV lo up hf x y) ∧ d_own_carry [gR lo, gR up, H, tuI x, tuI y] = .ok (tuI (ownV lo up hf x y)) := by
  obtain ⟨vx, ex, _⟩ := h x hx
  obtain ⟨vy, ey, _⟩ := h y hy
  have hz := put_el t.g2.ok hx.len hy.len
  obtain ⟨vz, ez, _⟩ := h _ hz
  have a0 := added_ok t.g2.ok hx hy
  have a1 := added_ok t.g1.ok vx vy
  have p1 := put_el t.g1.ok vx.len vy.len
  have b := back_ok t.g1.ok vz
  have be := back_el t.g1.ok vz.len
  have a2 := added_ok t.g1.ok p1 be
  have bt := back_times' vz.len
  have oe : ownV lo up hf x y = putV lo (putV lo (hf x) (hf y)) (backV lo (hf (putV up x y))) := by unfold ownV; rw [bt]
  rw [oe]
  refine ⟨put_el t.g1.ok p1.len be.len, runD_rt rfl ?_⟩
  simp only [startD, N_own_carry, List.length_cons, List.length_nil, List.map_cons, List.map_nil, Nat.reduceAdd, Nat.reduceSub, Nat.zero_add, List.replicate, List.cons_append, List.nil_append]
  simp [e_own_carry, mthD, mt_added, mt_back, ex, ey, ez, a0, a1, b, a2]
/-- changed carries -/
noncomputable def chgC (lo up : List Int) (c : List Int → List Int → List Int) (hf : List Int → List Int) (x y : List Int) : List Int := putV lo (c x y) (ownV lo up hf x y)
theorem fillPQ {N : Nat} {Q : List Int × List Int → List Int → Prop} {f : D → Env → Oc} (A : List Int × List Int → D) (P : List ((List Int × List Int) × List Int) → Env → Prop) {X : List (List Int × List Int)} {r : Env} (hl : X.length ≤ N) (hn : X.Nodup)
    (h : ∀ L, L.length < N → ∀ a ∈ X, ∀ r, P L r → ∃ v r', Q a v ∧ f (A a) r = .nx r' ∧ P (setA L a v) r') (hp : P [] r) : ∃ L' r', forD f (X.map A) r = .nx r' ∧ P L' r' ∧ L'.map (·.1) = X ∧ ∀ p ∈ L', Q p.1 p.2 := by
  have := fillKQ (N := N) (Q := Q) (f := f) A (fun a : List Int × List Int => a) P (X := X) (L := []) (r := r) (by simpa using hl) (by simpa using hn) (by simp) (fun L hL a ha _ r hr => h L hL a ha r hr) hp
  simpa using this
theorem changed_ok {lo up : List Int} {c : List Int → List Int → List Int} {H : D} {hf : List Int → List Int} (t : OkT lo up) (hc : OkC lo up c) (h : LabM lo up H hf) : d_changed [tabD lo up c, H] = .ok (tabD lo up (chgC lo up c hf)) := by
  have fu : fldD (plOf [2] "upper") (tabD lo up c) = .ok (gR up) := fld_upper lo up _
  have fl : fldD (plOf [2] "lower") (tabD lo up c) = .ok (gR lo) := fld_lower lo up _
  obtain ⟨H', h', lo'⟩ := labels_of_ok t h
  have cs := carries_ok (c := c) t
  have l81 := t.prs_le
  have hp81 : (prs up).length ≤ 81 := by unfold prs; simpa [List.length_flatMap, sum_const] using l81
  have okc : OkC lo up (chgC lo up c hf) := fun x y hx hy => put_el t.g1.ok (hc x y hx hy).len (own_carry_ok t h' hx hy).1.len
  have mk := tableC_ok t okc
  let E (L : List ((List Int × List Int) × List Int)) (s4 s5 s6 : Slot) : Env := [.sh (tabD lo up c), .sh H, .sh H', .ow .flat (dicA pkD tuI L), s4, s5, s6]
  obtain ⟨L, r2, lp2, ⟨s4, s5, s6, rfl⟩, hk, hv⟩ := fillPQ (N := 81) (Q := fun p v => v = chgC lo up c hf p.1 p.2) (f := changed_l1) (fun p => .tup [pkD p, tuI (c p.1 p.2)]) (fun L r => ∃ s4 s5 s6, r = E L s4 s5 s6)
    (X := prs up) (r := E [] .un .un .un) hp81 (prs_nodup up)
    (fun L hL p hp r ⟨s4, s5, s6, e⟩ => by
      subst e
      obtain ⟨m1, m2⟩ := mem_prs.mp hp
      have hx := mem_mems.mp m1
      have hy := mem_mems.mp m2
      obtain ⟨oe, oc⟩ := own_carry_ok t h' hx hy
      have ce := hc _ _ hx hy
      have ad := added_ok t.g1.ok ce oe
      have k0 : ixD (pkD p) (.int 0) = .ok (tuI p.1) := rfl
      have k1 : ixD (pkD p) (.int 1) = .ok (tuI p.2) := rfl
      have sd : setD (dicA pkD tuI L) (pkD p) (tuI (chgC lo up c hf p.1 p.2)) = .ok (dicA pkD tuI (setA L p (chgC lo up c hf p.1 p.2))) := setD_A (V := tuI) keyP L p _ (by unfold lim; omega)
      refine ⟨chgC lo up c hf p.1 p.2, E (setA L p (chgC lo up c hf p.1 p.2)) (.sh (pkD p)) (.sh (tuI (c p.1 p.2))) (.sh (tuI (ownV lo up hf p.1 p.2))), rfl, ?_, _, _, _, rfl⟩
      have ad : d_Group_added [gR lo, tuI (c p.1 p.2), tuI (ownV lo up hf p.1 p.2)] = .ok (tuI (chgC lo up c hf p.1 p.2)) := ad
      generalize chgC lo up c hf p.1 p.2 = w at *
      generalize ownV lo up hf p.1 p.2 = u at *
      generalize c p.1 p.2 = v at *
      generalize pkD p = K at *
      simp only [E]
      simp only [tabD] at fu fl ⊢
      simp [changed_l1, setG, ownF, fu, fl, k0, k1, oc, mthD, mt_added, ad, sd]) ⟨_, _, _, rfl⟩
  have hv' : ∀ p ∈ L, p.2 = chgC lo up c hf p.1.1 p.1.2 := fun p hp => hv p hp
  have e := byRule (L := L) (g := fun p : List Int × List Int => chgC lo up c hf p.1 p.2) hv'
  rw [show L.map (fun p => p.1) = prs up from hk] at e
  have ed : dicA pkD tuI L = dicF pkD tuI (prs up) fun p => chgC lo up c hf p.1 p.2 := by
    show _ = dicA pkD tuI ((prs up).map fun p => (p, chgC lo up c hf p.1 p.2))
    exact congrArg (dicA pkD tuI) e
  rw [← ed] at mk
  have it : pairsD (dicF pkD tuI (prs up) fun p => c p.1 p.2) = .ok ((prs up).map fun p => .tup [pkD p, tuI (c p.1 p.2)]) := by
    show pairsD (dicA pkD tuI ((prs up).map fun p => (p, c p.1 p.2))) = _
    rw [pairsD_A, List.map_map]
    rfl
  refine runD_rt rfl ?_
  simp only [startD, N_changed, List.length_cons, List.length_nil, List.map_cons, List.map_nil, Nat.reduceAdd, Nat.reduceSub, Nat.zero_add, List.replicate, List.cons_append, List.nil_append]
  simp only [E] at lp2
  rw [show (dicA pkD tuI ([] : List ((List Int × List Int) × List Int))) = .dic [] [] from rfl] at lp2
  generalize tabD lo up (chgC lo up c hf) = T at *
  generalize dicA pkD tuI L = K at *
  simp only [tabD] at fu fl cs lp2 ⊢
  generalize (dicF pkD tuI (prs up) fun p => c p.1 p.2) = C at *
  simp [-pairsD_dic, e_changed, fu, fl, lo', mthD, mt_carries, cs, it, lp2, freeze, mk]
/-- labels for all heads, as a list -/
theorem q_labels_F {lo up : List Int} {n : Int} (t : OkT lo up) : ∃ hf : List Int → List Int, (∀ x, OkE up x → OkE lo (hf x)) ∧ d_q_labels [tuI lo, tuI up, .int n] = .ok (dicA tuI tuI ((mems up).map fun x => (x, hf x))) := by
  have m := q_all_ok t.g2.ok t.g2.most t.g2.prod
  have l9 := t.mems_le
  have sz := q_size_ok t.g1
  have dv := fun i => divS t.g1 i
  let E (L : List (List Int × List Int)) (c : Int) (s4 : Slot) : Env := [.sh (tuI lo), .sh (tuI up), .sh (.int c), .ow .flat (dicA tuI tuI L), s4]
  obtain ⟨L, r2, lp2, ⟨c', s4, rfl⟩, hk, hv⟩ := fillE (N := 9) (lo := lo) (f := q_labels_l1) tuI (fun x => x) (fun L r => ∃ (c : Int) (s4 : Slot), r = E L c s4)
    (X := mems up) (L := []) (r := E [] n .un) (by simpa using l9) (by simpa using mems_nodup up) (by simp)
    (fun L hL x hx hm r ⟨cv, s4, e⟩ => by
      subst e
      obtain ⟨v, hv, ev⟩ := q_drawn_ok (rs := lo) (c := cv) t.g1.ok t.g1.most
      have sd : setD (dicA tuI tuI L) (tuI x) (tuI v) = .ok (dicA tuI tuI (setA L x v)) := setD_A (V := tuI) keyE L x v (by unfold lim; omega)
      refine ⟨v, E (setA L x v) (cv / lo.foldl (· * ·) 1) (.sh (tuI x)), hv, ?_, _, _, rfl⟩
      simp only [E]
      simp [q_labels_l1, setG, ownF, ev, sd, sz, dv]) ⟨_, _, rfl⟩
  simp only [List.nil_append] at *
  have hk : L.map (·.1) = mems up := by simpa using hk
  have gn : (L.map (·.1)).Nodup := by rw [hk]; exact mems_nodup up
  have e : L = (mems up).map fun x => (x, (lookA L x).getD []) := by
    rw [← hk]
    refine byRule (L := L) (g := fun x => (lookA L x).getD []) fun p hp => ?_
    rw [lookA_mem gn hp]
    rfl
  refine ⟨fun x => (lookA L x).getD [], fun x hx => ?_, ?_⟩
  · have hm : x ∈ L.map (·.1) := by rw [hk]; exact mem_mems.mpr hx
    obtain ⟨v, h1, h2⟩ := lookA_all gn hv (x := x) hm
    show OkE lo ((lookA L x).getD [])
    rw [h1]
    exact h2
  · rw [← e]
    first | refine runD_rt rfl ?_ | refine runO_rt rfl ?_
    simp only [startD, N_q_labels, List.length_cons, List.length_nil, List.map_cons, List.map_nil, Nat.reduceAdd, Nat.reduceSub, Nat.zero_add, List.replicate, List.cons_append, List.nil_append]
    simp only [E] at lp2
    rw [show (dicA tuI tuI ([] : List (List Int × List Int))) = .dic [] [] from rfl] at lp2
    simp [e_q_labels, m, lp2, freeze]
    try rfl
noncomputable def odd27 (lo : List Int) : List D := match lo with
  | [] => [.non, .lst [], tuI [0], .str "", .int 0, .dic [] []]
  | l :: ls => [.non, liI (l :: ls), tuI (l :: ls), tuI (l :: ls ++ [0]), .str "a", .tup (ls.map fun _ => .int 0), .int (-1), .dic [] [], .tup (.bl true :: ls.map fun _ => .int 0), tuI (-1 :: ls), .tup (.non :: ls.map .int)]
noncomputable def oddB (lo : List Int) : Bool := (odd27 lo).all fun d => match d_Rounds_has [gR lo, d] with
  | .ok (.bl false) => true
  | _ => false
theorem odd_all : lows33.all oddB = true := by decide +kernel
noncomputable def oddTail : Env → Oc := fun r => (lift ((((.ok .non) >>= fun d => (((.ok []) >>= lstD) >>= fun d => ((((.ok (.int 0)) >>= fun d => (.ok []) >>= fun ds => .ok (d :: ds)) >>= tupD) >>= fun d => ((.ok (.str "")) >>= fun d => ((.ok (.int 0)) >>= fun d => ((.ok (.dic [] [])) >>= fun d => (.ok []) >>= fun ds => .ok (d :: ds)) >>= fun ds => .ok (d :: ds)) >>= fun ds => .ok (d :: ds)) >>= fun ds => .ok (d :: ds)) >>= fun ds => .ok (d :: ds)) >>= fun ds => .ok (d :: ds)) >>= lstD) >>= fun x => ((getS 1 r) >>= fun x => (.ok (.int 6)) >>= fun y => modD x y) >>= fun y => ixD x y) r fun d => .rt d)
theorem odd_thing_ok {lo : List Int} (h : lo ∈ lows33) (c : Int) : ∃ d, d_q_odd_thing [tuI lo, .int c] = .ok d ∧ d_Rounds_has [gR lo, d] = .ok (.bl false) := by
  have ob : oddB lo = true := List.all_eq_true.mp odd_all lo h
  have fin : ∀ d ∈ odd27 lo, d_Rounds_has [gR lo, d] = .ok (.bl false) := fun d hd => by
    have := List.all_eq_true.mp ob d hd
    revert this
    generalize d_Rounds_has [gR lo, d] = x
    intro this
    split at this
    · rfl
    · cases this
  have go : ∃ d ∈ odd27 lo, d_q_odd_thing [tuI lo, .int c] = .ok d := by
    have st : startD N_q_odd_thing.length [tuI lo, .int c] = [.sh (tuI lo), .sh (.int c), .un, .un] := rfl
    obtain ⟨x, hx, e⟩ := ixD_at (xs := odd27 lo) (c % ((odd27 lo).length : Nat)) (by
      have : 0 < (odd27 lo).length := by cases lo <;> simp [odd27]
      exact Int.emod_nonneg _ (by omega)) (by
      have : 0 < (odd27 lo).length := by cases lo <;> simp [odd27]
      exact Int.emod_lt_of_pos _ (by omega))
    refine ⟨x, hx, ?_⟩
    have fz0 : ∀ r, e_q_odd_thing [.sh (tuI lo), .sh (.int c), .un, .un] = (lift (modD (.int c) (.int ((odd27 lo).length : Nat)) >>= fun y => ixD (.lst (odd27 lo)) y) r fun d => .rt d) → d_q_odd_thing [tuI lo, .int c] = .ok x := fun r q => by
      refine runD_rt rfl ?_
      rw [st, q, modD_ok (by have : 0 < (odd27 lo).length := by cases lo <;> simp [odd27]
                             omega), ok_bind, e]
      rfl
    have fz : ∀ r, e_q_odd_thing [.sh (tuI lo), .sh (.int c), .un, .un] = (lift (modD (.int c) (.int ((odd27 lo).length : Nat)) >>= fun y => ixD (.lst (odd27 lo)) y) r fun d => .rt d).seq oddTail → d_q_odd_thing [tuI lo, .int c] = .ok x := fun r q => by
      refine runD_rt rfl ?_
      rw [st, q, modD_ok (by have : 0 < (odd27 lo).length := by cases lo <;> simp [odd27]
                             omega), ok_bind, e]
      rfl
    simp only [lows33, List.mem_cons, List.mem_nil_iff, or_false] at h
    rcases h with rfl | rfl | rfl | rfl | rfl | rfl | rfl | rfl | rfl | rfl | rfl | rfl | rfl | rfl | rfl | rfl
    · exact fz [.sh (tuI [2]), .sh (.int c), .sh (.lst (odd27 [2])), .un] (by kernel_rfl)
    · exact fz [.sh (tuI [4]), .sh (.int c), .sh (.lst (odd27 [4])), .un] (by kernel_rfl)
    · exact fz [.sh (tuI [3]), .sh (.int c), .sh (.lst (odd27 [3])), .un] (by kernel_rfl)
    · exact fz [.sh (tuI [2, 2]), .sh (.int c), .sh (.lst (odd27 [2, 2])), .un] (by kernel_rfl)
    · exact fz [.sh (tuI [6]), .sh (.int c), .sh (.lst (odd27 [6])), .un] (by kernel_rfl)
    · exact fz [.sh (tuI [8]), .sh (.int c), .sh (.lst (odd27 [8])), .un] (by kernel_rfl)
    · exact fz [.sh (tuI [2, 4]), .sh (.int c), .sh (.lst (odd27 [2, 4])), .un] (by kernel_rfl)
    · exact fz [.sh (tuI [9]), .sh (.int c), .sh (.lst (odd27 [9])), .un] (by kernel_rfl)
    · exact fz [.sh (tuI [12]), .sh (.int c), .sh (.lst (odd27 [12])), .un] (by kernel_rfl)
    · exact fz [.sh (tuI [3, 3]), .sh (.int c), .sh (.lst (odd27 [3, 3])), .un] (by kernel_rfl)
    · exact fz [.sh (tuI [2, 6]), .sh (.int c), .sh (.lst (odd27 [2, 6])), .un] (by kernel_rfl)
    · exact fz0 [.sh (tuI []), .sh (.int c), .sh (.lst [.non, .lst [], tuI [], tuI [0], .str "a", .tup [], .int (-1), .dic [] []]), .un] (by kernel_rfl)
    · exact fz [.sh (tuI [5]), .sh (.int c), .sh (.lst (odd27 [5])), .un] (by kernel_rfl)
    · exact fz [.sh (tuI [2, 2, 2]), .sh (.int c), .sh (.lst (odd27 [2, 2, 2])), .un] (by kernel_rfl)
    · exact fz [.sh (tuI [16]), .sh (.int c), .sh (.lst (odd27 [16])), .un] (by kernel_rfl)
    · exact fz [.sh (tuI [4, 4]), .sh (.int c), .sh (.lst (odd27 [4, 4])), .un] (by kernel_rfl)
  obtain ⟨d, hd, e⟩ := go
  exact ⟨d, e, fin d hd⟩
theorem forD_pre {α : Type} {f : D → Env → Oc} (A : α → D) (P : Nat → Env → Prop) {rest : List D} : ∀ {pre : List α} {n : Nat} {r : Env}, (∀ a ∈ pre, ∀ i r, i < n + pre.length → P i r → ∃ r', f (A a) r = .nx r' ∧ P (i + 1) r') → P n r → ∃ r', forD f (pre.map A ++ rest) r = forD f rest r' ∧ P (n + pre.length) r'
  | [], n, r, _, h0 => ⟨r, rfl, h0⟩
  | a :: pre, n, r, h, h0 => by
    obtain ⟨r1, e1, p1⟩ := h a (List.mem_cons_self ..) n r (by simp) h0
    obtain ⟨r2, e2, p2⟩ := forD_pre A P (rest := rest) (pre := pre) (n := n + 1) (r := r1) (fun b hb i r hi hr => h b (List.mem_cons_of_mem _ hb) i r (by simp only [List.length_cons]; omega) hr) p1
    refine ⟨r2, ?_, by rw [List.length_cons]; rwa [show n + (pre.length + 1) = n + 1 + pre.length by omega]⟩
    rw [List.map_cons, List.cons_append, forD_cons, e1]
    exact e2
theorem hasA_del {α β : Type} [DecidableEq α] (l : List (α × β)) (a x : α) : hasA (delA l a) x = (decide (x ≠ a) && hasA l x) := by
  unfold hasA delA
  rw [List.any_filter, Bool.eq_iff_iff, Bool.and_eq_true, List.any_eq_true, List.any_eq_true]
  constructor
  · rintro ⟨p, hp, e⟩
    simp only [Bool.and_eq_true, decide_eq_true_eq] at e
    exact ⟨decide_eq_true (e.2 ▸ e.1), p, hp, decide_eq_true e.2⟩
  · rintro ⟨h, p, hp, e⟩
    have e := of_decide_eq_true e
    have h := of_decide_eq_true h
    exact ⟨p, hp, by simp only [Bool.and_eq_true, decide_eq_true_eq]; exact ⟨e ▸ h, e⟩⟩
theorem lookA_del {α β : Type} [DecidableEq α] (l : List (α × β)) {a x : α} (h : x ≠ a) : lookA (delA l a) x = lookA l x := by
  unfold lookA delA
  congr 1
  rw [List.find?_filter]
  congr 1
  funext p
  by_cases e : p.1 = x
  · simp [e, h]
  · simp [e]
theorem first_of {α : Type} [DecidableEq α] {a b : α} : ∀ {l : List α}, a ∈ l → ∃ pre z post, l = pre ++ z :: post ∧ (z = a ∨ z = b) ∧ ∀ x ∈ pre, x ≠ a ∧ x ≠ b
  | y :: l, h => by
    by_cases e : y = a ∨ y = b
    · exact ⟨[], y, l, rfl, e, by simp⟩
    · have ne : y ≠ a ∧ y ≠ b := ⟨fun q => e (.inl q), fun q => e (.inr q)⟩
      obtain ⟨pre, z, post, q1, q2, q3⟩ := first_of (b := b) (l := l) (by
        rcases List.mem_cons.mp h with q | q
        · exact absurd q.symm ne.1
        · exact q)
      exact ⟨y :: pre, z, post, by rw [q1]; rfl, q2, fun x hx => by
        rcases List.mem_cons.mp hx with q | q
        · exact q ▸ ne
        · exact q3 x q⟩
theorem mems_up27 : ∀ up ∈ ups33, (mems up).Pairwise fun p q => HT.lexLt p q = true ∧ HT.lexLt q p = false := by decide +kernel
theorem min_tI (a b : List Int) : minTD (tuI a) (tuI b) = .ok (if HT.lexLt b a = true then tuI b else tuI a) := by
  have ai : ∀ l : List Int, asInts (l.map D.int) = some l := fun l => by
    induction l with
    | nil => rfl
    | cons x l ih => rw [List.map_cons, asInts, ih]; rfl
  unfold minTD tuI
  simp only [ai]
theorem min27 {up a b z : List Int} {pre post : List (List Int)} (hu : up ∈ ups33) (ha : a ∈ mems up) (hb : b ∈ mems up) (e : mems up = pre ++ z :: post) (hz : z = a ∨ z = b) (hp : ∀ x ∈ pre, x ≠ a ∧ x ≠ b) : minTD (tuI a) (tuI b) = .ok (tuI z) := by
  have pw := mems_up27 up hu
  rw [e, List.pairwise_append] at pw
  have pz := (List.pairwise_cons.mp pw.2.1).1
  rw [min_tI]
  by_cases eq : a = b
  · subst eq
    have : z = a := hz.elim id id
    subst this
    simp
  · rcases hz with rfl | rfl
    · have hb' : b ∈ post := by
        rw [e, List.mem_append, List.mem_cons] at hb
        rcases hb with q | q | q
        · exact absurd rfl (hp b q).2
        · exact absurd q.symm eq
        · exact q
      rw [(pz b hb').2]
      simp
    · have ha' : a ∈ post := by
        rw [e, List.mem_append, List.mem_cons] at ha
        rcases ha with q | q | q
        · exact absurd rfl (hp a q).1
        · exact absurd q eq
        · exact q
      rw [(pz a ha').1]
      simp
/-- labels without other's, at one no element -/
noncomputable def lack27 (up : List Int) (hf : List Int → List Int) (one other : List Int) (odd : D) : D := dicA tuI id (delA (setA ((mems up).map fun x => (x, tuI (hf x))) one odd) other)
theorem lack_has {up x one other : List Int} {hf : List Int → List Int} {odd : D} (ho : one ∈ mems up) (hx : x ∈ mems up) : notInM (tuI x) (lack27 up hf one other odd) = .ok (.bl (decide (x = other))) := by
  show notInD (tuI x) (dicA tuI id _) = _
  rw [notInD_A keyE, hasA_del, setA_map _ _ _ _ ho, hasA_map]
  by_cases h : x = other <;> simp [h, hx]
theorem lack_ix {up x one other : List Int} {hf : List Int → List Int} {odd : D} (ho : one ∈ mems up) (hx : x ∈ mems up) (hn : x ≠ other) : ixM (lack27 up hf one other odd) (tuI x) = .ok (if x = one then odd else tuI (hf x)) := by
  show ixD (dicA tuI id _) (tuI x) = _
  refine ixD_A (V := id) keyE _ x ?_
  rw [lookA_del _ hn, setA_map _ _ _ _ ho]
  exact lookA_map (fun x => if x = one then odd else tuI (hf x)) hx
theorem setA_len27 {α β : Type} [DecidableEq α] (l : List (α × β)) (a : α) (b : β) : (setA l a b).length ≤ l.length + 1 := by
  unfold setA
  split <;> simp
theorem labels_lack {lo up one other z : List Int} {hf : List Int → List Int} {odd : D} {pre post : List (List Int)} (t : OkT lo up) (hh : ∀ x, OkE up x → OkE lo (hf x)) (ho : one ∈ mems up) (od : d_Rounds_has [gR lo, odd] = .ok (.bl false))
    (e : mems up = pre ++ z :: post) (hz : z = one ∨ z = other) (hp : ∀ x ∈ pre, x ≠ one ∧ x ≠ other) : d_labels_of [gR lo, gR up, lack27 up hf one other odd] = .er (.exc 26 [tuI z]) := by
  have m := members_ok t.g2.ok t.g2.most t.g2.prod
  have l9 := t.mems_le
  have hL := fun x (hx : x ∈ mems up) => lack_has (other := other) (hf := hf) (odd := odd) ho hx
  have hI := fun x (hx : x ∈ mems up) (hn : x ≠ other) => lack_ix (hf := hf) (odd := odd) ho hx hn
  have zm : z ∈ mems up := by rw [e]; simp
  generalize lack27 up hf one other odd = H at *
  let E (L : List (List Int × List Int)) (s4 : Slot) : Env := [.sh (gR lo), .sh (gR up), .sh H, .ow .flat (dicA tuI tuI L), s4]
  obtain ⟨r2, lp, ⟨L, s4, rfl, hl⟩⟩ := forD_pre (f := labels_of_l1) tuI (fun n r => ∃ L s4, r = E L s4 ∧ L.length ≤ n) (rest := tuI z :: post.map tuI) (pre := pre) (n := 0) (r := E [] .un)
    (fun x hx i r hi ⟨L, s4, q, hl⟩ => by
      subst q
      have xm : x ∈ mems up := by rw [e]; exact List.mem_append_left _ hx
      have q2 := hI x xm (hp x hx).2
      have q3 := hL x xm
      rw [if_neg (hp x hx).1] at q2
      rw [decide_eq_false (hp x hx).2] at q3
      have hh := has_ok (hh x (mem_mems.mp xm))
      have pl : pre.length ≤ (mems up).length := by rw [e, List.length_append]; omega
      have sd : setD (dicA tuI tuI L) (tuI x) (tuI (hf x)) = .ok (dicA tuI tuI (setA L x (hf x))) := setD_A (V := tuI) keyE L x (hf x) (by unfold lim; omega)
      refine ⟨E (setA L x (hf x)) (.sh (tuI x)), ?_, _, _, rfl, Nat.le_trans (setA_len27 L x (hf x)) (by omega)⟩
      simp only [E]
      generalize hf x = v at *
      simp [labels_of_l1, setG, ownF, mthD, mt_has, q2, q3, hh, sd]) ⟨[], .un, rfl, by simp⟩
  have er : labels_of_l1 (tuI z) (E L s4) = .er (.exc 26 [tuI z]) (E L (.sh (tuI z))) := by
    have q3 := hL z zm
    simp only [E]
    by_cases zo : z = other
    · rw [decide_eq_true zo] at q3
      generalize tuI z = Z at *
      simp [labels_of_l1, mthD, mt_has, q3, raiseD, cflds]
    · have q2 := hI z zm zo
      rw [if_pos (hz.resolve_right zo)] at q2
      rw [decide_eq_false zo] at q3
      generalize tuI z = Z at *
      simp [labels_of_l1, mthD, mt_has, q2, q3, od, raiseD, cflds]
  rw [forD_cons, er] at lp
  refine runD_er (r := E L (.sh (tuI z))) rfl ?_
  simp only [startD, N_labels_of, List.length_cons, List.length_nil, List.map_cons, List.map_nil, Nat.reduceAdd, Nat.reduceSub, Nat.zero_add, List.replicate, List.cons_append, List.nil_append]
  have em : (mems up).map tuI = pre.map tuI ++ tuI z :: post.map tuI := by rw [e, List.map_append, List.map_cons]
  simp only [E] at lp
  rw [show (dicA tuI tuI ([] : List (List Int × List Int))) = .dic [] [] from rfl, ← em] at lp
  simp [e_labels_of, mthD, mt_members, m, lp]
  try rfl
theorem q_lacks_ok {lo up one other : List Int} {c : List Int → List Int → List Int} {hf : List Int → List Int} {odd : D} (t : OkT lo up) (hu : up ∈ ups33) (hh : ∀ x, OkE up x → OkE lo (hf x)) (ho : one ∈ mems up) (ho' : other ∈ mems up) (od : d_Rounds_has [gR lo, odd] = .ok (.bl false)) :
    ∃ z, minTD (tuI one) (tuI other) = .ok (tuI z) ∧ d_q_lacks [tabD lo up c, lack27 up hf one other odd] = .ok (tuI z) := by
  obtain ⟨pre, z, post, e, hz, hp⟩ := first_of (b := other) ho
  have ll := labels_lack t hh ho od e hz hp
  refine ⟨z, min27 hu ho ho' e hz hp, ?_⟩
  have fu : fldD (plOf [2] "upper") (tabD lo up c) = .ok (gR up) := fld_upper lo up _
  have fl : fldD (plOf [2] "lower") (tabD lo up c) = .ok (gR lo) := fld_lower lo up _
  generalize lack27 up hf one other odd = H at *
  have ec : d_changed [tabD lo up c, H] = .er (.exc 26 [tuI z]) := by
    refine runD_er (r := [.sh (tabD lo up c), .sh H, .un, .un, .un, .un, .un]) rfl ?_
    simp only [startD, N_changed, List.length_cons, List.length_nil, List.map_cons, List.map_nil, Nat.reduceAdd, Nat.reduceSub, Nat.zero_add, List.replicate, List.cons_append, List.nil_append]
    simp [e_changed, fu, fl, ll]
  refine runD_rt rfl ?_
  simp only [startD, N_q_lacks, List.length_cons, List.length_nil, List.map_cons, List.map_nil, Nat.reduceAdd, Nat.reduceSub, Nat.zero_add, List.replicate, List.cons_append, List.nil_append]
  have cc : ctC.contains 26 = true := by decide
  have cu : ctU.contains 10 = true := by decide
  have ov : overC 26 10 = true := by decide
  have i1 : isD isC isU (.exc 26 [tuI z]) (.cls 26) = .ok (.bl true) := rfl
  have fe : fldE (plOf [23, 26] "x") (.exc 26 [tuI z]) = .ok (tuI z) := rfl
  generalize tuI z = Z at *
  simp [e_q_lacks, ec, tryD, catchD, bindI, closeI, clrI, cc, cu, ov, i1, fe, -List.contains_eq_mem]
theorem is_table27 (lo up : List Int) (k : D) : isD isC isU (.obj 2 [gR lo, gR up, k]) (.cls 2) = .ok (.bl true) := by kernel_rfl
theorem table_is27 {lo up : List Int} {c c' : List Int → List Int → List Int} (t : OkT lo up) (hc : OkC lo up c) (h : ∀ p ∈ prs up, c p.1 p.2 = c' p.1 p.2) : d_q_table_is [tabD lo up c, tuI lo, tuI up, cD up c'] = .ok (.bl true) := by
  have fl : fldD (plOf [2] "lower") (tabD lo up c) = .ok (gR lo) := fld_lower lo up _
  have fu : fldD (plOf [2] "upper") (tabD lo up c) = .ok (gR up) := fld_upper lo up _
  have it : isD isC isU (tabD lo up c) (.cls 2) = .ok (.bl true) := is_table27 lo up _
  have cs : d_Table_carries [tabD lo up c] = .ok (cD up c) := carries_ok t
  have im : itemsD (cD up c') = .ok ((prs up).map pkD) := by
    show itemsD (dicA pkD tuI ((prs up).map fun p => (p, c' p.1 p.2))) = _
    rw [itemsD_A, List.map_map]
    rfl
  have eq : eqD (cD up c) (cD up c') = .ok (.bl true) := by
    have e := eqD_F keyP (prs up) (fun p => c p.1 p.2) (fun p => c' p.1 p.2)
    rw [decide_eq_true h] at e
    exact e
  have gd : ∀ p ∈ prs up, ixD (cD up c) (pkD p) = .ok (tuI (c p.1 p.2)) := fun p hp => getC (lo := lo) c (mem_mems.mp (mem_prs.mp hp).1) (mem_mems.mp (mem_prs.mp hp).2)
  have na := neD_tI lo lo
  have nb := neD_tI up up
  have ln : lenD (tuI lo) = .ok (.int lo.length) := by simp
  have l7 := t.g1.ok.len
  have ll : ((prs up).map fun _ => D.bl true).length ≤ lim := by
    have := t.prs_le
    rw [List.length_map, prs_len]
    unfold lim
    omega
  have at_ : allT (.lst ((prs up).map fun _ => D.bl true)) = .ok (.bl true) := by
    have e1 : ((prs up).map fun _ => D.bl true) = ((prs up).map fun _ => true).map D.bl := by rw [List.map_map]; rfl
    rw [e1, allT_bls]
    simp
  refine runD_rt rfl ?_
  simp only [startD, N_q_table_is, List.length_cons, List.length_nil, List.map_cons, List.map_nil, Nat.reduceAdd, Nat.reduceSub, Nat.zero_add, List.replicate, List.cons_append, List.nil_append]
  generalize cD up c = C at *
  generalize cD up c' = C' at *
  simp only [tabD] at fl fu it cs ⊢
  generalize (dicF pkD tuI (prs up) fun p => c p.1 p.2) = KK at *
  have lc : q_table_is_c1 [.sh (.obj 2 [gR lo, gR up, KK]), .sh (tuI lo), .sh (tuI up), .sh C', .sh C, .un] ((prs up).map pkD) = .ok ((prs up).map fun _ => D.bl true) := by
    unfold q_table_is_c1
    refine lcD_gmap pkD (fun _ => D.bl true) fun p hp => ⟨_, rfl, rfl, ?_⟩
    have g := gd p hp
    have ar := q_are_ok (x := c p.1 p.2) (m := lo.length) (hc _ _ (mem_mems.mp (mem_prs.mp hp).1) (mem_mems.mp (mem_prs.mp hp).2)).len (by omega)
    generalize tuI (c p.1 p.2) = v at *
    simp [wipeR, g, ln, ar]
  generalize ((prs up).map fun _ => D.bl true) = ys at lc at_ ll
  have ls : lstD ys = .ok (.lst ys) := by unfold lstD; rw [if_pos ll]
  simp [e_q_table_is, it, fl, fu, fld_rounds, na, nb, mthD, mt_carries, cs, eq, im, lc, ls, at_, -lstD]
theorem seq_nx27 {o : Oc} {B : Env → Oc} {v : D} {r1 : Env} (h : o = .nx r1) (k : B r1 = .rt v) : o.seq B = .rt v := by rw [h]; exact k
theorem labM_dic {lo up : List Int} {ks vs : List D} {hf : List Int → List Int} (h : Lab lo up (.dic ks vs) hf) : LabM lo up (.dic ks vs) hf := fun x hx => h x hx
theorem labM_mix {lo up : List Int} {ks vs : List D} {hf : List Int → List Int} {n : Int} {v : D} (h : Lab lo up (.dic ks vs) hf) : LabM lo up (.mix ks vs (.inl n) v) hf := fun x hx => by
  obtain ⟨a, b, c⟩ := h x hx
  have kq : keyT (tuI x) = some (kI x) := keyE.t x
  refine ⟨a, ?_, ?_⟩
  · unfold ixD at b
    unfold ixM
    simp only [kq] at b ⊢
    cases e : getK ks vs (kI x) with
    | none => rw [e] at b; cases b
    | some d => simp only [e] at b ⊢; exact b
  · unfold notInD at c
    unfold notInM
    simp only [kq] at c ⊢
    exact c
theorem chg_zero {lo up x y : List Int} {c : List Int → List Int → List Int} (t : OkT lo up) (hc : OkC lo up c) (hx : OkE up x) (hy : OkE up y) : chgC lo up c (fun _ => zeroV lo) x y = c x y := by
  unfold chgC
  rw [own_zero t.g1.ok, put_zero (hc x y hx hy)]
theorem apart_tabM (lo up : List Int) (c : List Int → List Int → List Int) : apartM (tabD lo up c) = true := by
  have ai : ∀ l : List Int, apartsM (l.map D.int) = true := fun l => by
    induction l with
    | nil => rfl
    | cons x l ih => rw [List.map_cons, apartsM, ih]; rfl
  have at_ : ∀ l : List Int, apartM (tuI l) = true := fun l => by
    show apartsM (l.map D.int) = true
    exact ai l
  have am : ∀ {α : Type} (f : α → D) (l : List α), (∀ a, apartM (f a) = true) → apartsM (l.map f) = true := fun f l h => by
    induction l with
    | nil => rfl
    | cons x l ih => rw [List.map_cons, apartsM, ih, h]; rfl
  have ap : ∀ p : List Int × List Int, apartM (pkD p) = true := fun p => by
    show apartsM [tuI p.1, tuI p.2] = true
    simp only [apartsM, at_, Bool.and_self]
  have ag : ∀ rs : List Int, apartM (gR rs) = true := fun rs => by
    show apartsM _ = true
    simp [apartsM, at_, apartM, ai]
  show apartsM [gR lo, gR up, cD up c] = true
  have ac : apartM (cD up c) = true := by
    show (apartsM _ && apartsM _) = true
    rw [List.map_map, List.map_map, am ((fun p => pkD p.1) ∘ fun x => (x, c x.1 x.2)) _ (fun _ => ap _), am ((fun p => tuI p.2) ∘ fun x : List Int × List Int => (x, c x.1 x.2)) _ (fun _ => at_ _)]
    rfl
  simp only [apartsM, ag, ac, Bool.and_self]
/-- the state of the law -/
noncomputable def E27 (ns lo up : List Int) (s3 s4 s5 s6 s7 s8 s9 s10 s11 s12 s13 s14 s15 : Slot) : Env := [.sh (.scr ns), .sh (tuI lo), .sh (tuI up), s3, s4, s5, s6, s7, s8, s9, s10, s11, s12, s13, s14, s15, .un]
theorem first27 (ns : List Int) (hl : ns.length ≤ 63) : ∃ (lo up : List Int) (c : List Int → List Int → List Int) (s4 : Slot) (hf : List Int → List Int), lo ∈ lows33 ∧ up ∈ ups33 ∧ OkC lo up c ∧ (∀ x, OkE up x → OkE lo (hf x)) ∧ ∀ (B : Env → Oc) (v : D), B (E27 ns lo up (.sh (cD up c)) s4 (.sh (tabD lo up c)) (.ow .flat (dicA tuI tuI ((mems up).map fun x => (x, hf x)))) (.sh (.lst ((mems up).map tuI))) .un .un .un .un .un .un .un .un) = .rt v →
    ((law_s1 (startD N_law.length [.scr ns])).seq fun r => (law_s2 r).seq fun r => (law_s3 r).seq fun r => (law_s4 r).seq fun r => (law_s5 r).seq fun r => (law_s6 r).seq B) = .rt v := by
  have ce := fun (k : Int) (h0 : 0 ≤ k) (h : k ≤ 100) => q_cell_ok ns k h0 (by omega)
  obtain ⟨k0, ce0⟩ := ce 0 (by omega) (by omega)
  obtain ⟨k1, ce1⟩ := ce 1 (by omega) (by omega)
  obtain ⟨k2, ce2⟩ := ce 2 (by omega) (by omega)
  obtain ⟨k3, ce3⟩ := ce 3 (by omega) (by omega)
  obtain ⟨lo, up, hlo, hup, er⟩ := q_roundsM_ok k0 (m := 16) (by omega) (by omega)
  have t := okT33 hlo hup
  obtain ⟨c1, hc1, ea⟩ := q_any_ok (n := k1) t
  obtain ⟨ps, L, hP, hQ, ep⟩ := q_parts_ok (n := k1) t
  obtain ⟨hf2, hh2, el2⟩ := q_labels_F (n := k2) t
  obtain ⟨hf, hh, el⟩ := q_labels_F (n := k3) t
  have lb2 := lab_F (up := up) hh2
  obtain ⟨c2, ec2⟩ := q_carries_ok t hP (fun x hx => ⟨(lb2 x hx).1, (lb2 x hx).2.1⟩)
  have m := q_all_ok t.g2.ok t.g2.most t.g2.prod
  have st : startD N_law.length [.scr ns] = [.sh (.scr ns), .un, .un, .un, .un, .un, .un, .un, .un, .un, .un, .un, .un, .un, .un, .un, .un] := rfl
  have h1 : law_s1 [.sh (.scr ns), .un, .un, .un, .un, .un, .un, .un, .un, .un, .un, .un, .un, .un, .un, .un, .un] = .nx (E27 ns lo up .un .un .un .un .un .un .un .un .un .un .un .un .un) := by
    simp [law_s1, E27, ce0, er]
  have h2 : law_s2 (E27 ns lo up .un .un .un .un .un .un .un .un .un .un .un .un .un) = .nx (E27 ns lo up (.sh (cD up c1)) .un .un .un .un .un .un .un .un .un .un .un .un) := by
    have ea : d_q_any [tuI lo, tuI up, .int k1] = .ok (cD up c1) := ea
    generalize cD up c1 = C at *
    simp [law_s2, E27, ce1, ea]
  have h3 : ∃ c s4, OkC lo up c ∧ law_s3 (E27 ns lo up (.sh (cD up c1)) .un .un .un .un .un .un .un .un .un .un .un .un) = .nx (E27 ns lo up (.sh (cD up c)) s4 .un .un .un .un .un .un .un .un .un .un .un) := by
    have mo : modD (.int k2) (.int 2) = .ok (.int (k2 % 2)) := modD_ok (by omega)
    by_cases hz : k2 % 2 = 0
    · refine ⟨_, .sh (.tup [.lst (ps.map tuI), dicA nnD tuI L]), c2, ?_⟩
      have ec2 : d_q_carries [tuI lo, tuI up, .tup [.lst (ps.map tuI), dicA nnD tuI L], dicA tuI tuI ((mems up).map fun x => (x, hf2 x))] = .ok (cD up (wholeV lo up ps L hf2)) := ec2
      generalize cD up c1 = C1 at *
      generalize cD up (wholeV lo up ps L hf2) = C at *
      generalize (dicA tuI tuI ((mems up).map fun x => (x, hf2 x))) = H2 at *
      generalize D.tup [.lst (ps.map tuI), dicA nnD tuI L] = T at *
      have q : eqD (.int (k2 % 2)) (.int 0) = .ok (.bl true) := by rw [hz]; rfl
      simp [law_s3, law_s3_1, law_s3_2, E27, ce1, ce2, mo, q, ep, el2, ec2, -eqD_int]
    · refine ⟨c1, .un, hc1, ?_⟩
      generalize cD up c1 = C1 at *
      have q : eqD (.int (k2 % 2)) (.int 0) = .ok (.bl false) := by rw [eqD_int, decide_eq_false hz]
      simp [law_s3, E27, ce2, mo, q, -eqD_int]
  obtain ⟨c, s4, hc, h3⟩ := h3
  have h4 : law_s4 (E27 ns lo up (.sh (cD up c)) s4 .un .un .un .un .un .un .un .un .un .un .un) = .nx (E27 ns lo up (.sh (cD up c)) s4 (.sh (tabD lo up c)) .un .un .un .un .un .un .un .un .un .un) := by
    have i1 := init_ok t.g1 (tuI lo) (.inl rfl)
    have i2 := init_ok t.g2 (tuI up) (.inl rfl)
    have dq : dictD (cD up c) = .ok (cD up c) := dictD_F (E := pkD) (V := tuI) (prs up) (fun p => c p.1 p.2) (apart_prs t.small)
    have ti : d_Table_init [gR lo, gR up, cD up c] = .ok (tabD lo up c) := tableC_ok t hc
    generalize tabD lo up c = T at *
    generalize cD up c = C at *
    generalize gR lo = GL at *
    generalize gR up = GU at *
    simp [law_s4, E27, i1, i2, dq, ti]
  refine ⟨lo, up, c, s4, hf, hlo, hup, hc, hh, fun B v hB => ?_⟩
  rw [st]
  refine seq_nx27 h1 (seq_nx27 h2 (seq_nx27 h3 (seq_nx27 h4 ?_)))
  generalize tabD lo up c = T at *
  generalize cD up c = C at *
  generalize (dicA tuI tuI ((mems up).map fun x => (x, hf x))) = H at *
  refine seq_nx27 (r1 := E27 ns lo up (.sh C) s4 (.sh T) (.ow .flat H) .un .un .un .un .un .un .un .un .un) (by simp [law_s5, E27, ce3, el]) ?_
  generalize D.lst ((mems up).map tuI) = M at *
  exact seq_nx27 (r1 := E27 ns lo up (.sh C) s4 (.sh T) (.ow .flat H) (.sh M) .un .un .un .un .un .un .un .un) (by simp [law_s6, E27, m]) hB
theorem carries_mth {lo up : List Int} {c : List Int → List Int → List Int} (t : OkT lo up) : (mthD mt_carries (tabD lo up c) >>= fun g => g []) = .ok (cD up c) := by
  have cs : d_Table_carries [tabD lo up c] = .ok (cD up c) := carries_ok t
  simp only [tabD] at cs ⊢
  simp [mthD, mt_carries, cs]
/-- labels left out -/
theorem lack_road {ns lo up : List Int} {c : List Int → List Int → List Int} {s4 : Slot} {hf : List Int → List Int} {k5 k6 k7 : Int} (hlo : lo ∈ lows33) (hup : up ∈ ups33) (hh : ∀ x, OkE up x → OkE lo (hf x))
    (c4 : ∃ k4, d_q_cell [.scr ns, .int 4] = .ok (.int k4) ∧ k4 % 4 = 1) (ce5 : d_q_cell [.scr ns, .int 5] = .ok (.int k5)) (ce6 : d_q_cell [.scr ns, .int 6] = .ok (.int k6)) (ce7 : d_q_cell [.scr ns, .int 7] = .ok (.int k7)) :
    law_s7 (E27 ns lo up (.sh (cD up c)) s4 (.sh (tabD lo up c)) (.ow .flat (dicA tuI tuI ((mems up).map fun x => (x, hf x)))) (.sh (.lst ((mems up).map tuI))) .un .un .un .un .un .un .un .un) = .rt (.bl true) := by
  have t := okT33 hlo hup
  obtain ⟨k4, ce4, h4⟩ := c4
  have l9 := t.mems_le
  have pos : 0 < (mems up).length := List.length_pos_of_mem (mem_mems.mpr (zero_el t.g2.ok))
  have m4 : modD (.int k4) (.int 4) = .ok (.int (k4 % 4)) := modD_ok (by omega)
  have q4 : eqD (.int (k4 % 4)) (.int 1) = .ok (.bl true) := by rw [h4]; rfl
  have ln : lenD (.lst ((mems up).map tuI)) = .ok (.int ((mems up).length : Nat)) := by
    show Res.ok (D.int ((((mems up).map tuI).length : Nat) : Int)) = _
    rw [List.length_map]
  have m5 : modD (.int k5) (.int ((mems up).length : Nat)) = .ok (.int (k5 % ((mems up).length : Nat))) := modD_ok (by omega)
  have m6 : modD (.int k6) (.int ((mems up).length : Nat)) = .ok (.int (k6 % ((mems up).length : Nat))) := modD_ok (by omega)
  obtain ⟨d1, hd1, e1⟩ := ixD_pick (xs := (mems up).map tuI) k5 ((mems up).length : Nat) (by rw [List.length_map]) (by omega)
  obtain ⟨d2, hd2, e2⟩ := ixD_pick (xs := (mems up).map tuI) k6 ((mems up).length : Nat) (by rw [List.length_map]) (by omega)
  obtain ⟨one, ho, rfl⟩ := List.mem_map.mp hd1
  obtain ⟨other, ho', rfl⟩ := List.mem_map.mp hd2
  obtain ⟨odd, eo, od⟩ := odd_thing_ok hlo k7
  obtain ⟨z, mz, lz⟩ := q_lacks_ok (c := c) t hup hh ho ho' od
  have cs := carries_mth (c := c) t
  have qc := eqD_cD up c
  have qz : eqD (tuI z) (tuI z) = .ok (.bl true) := by rw [eqD_tI]; simp
  let L0 : List (List Int × D) := (mems up).map fun x => (x, tuI (hf x))
  have hH : (dicA tuI tuI ((mems up).map fun x => (x, hf x))) = dicA tuI id L0 := by
    show D.dic _ _ = D.dic _ _
    simp only [L0, List.map_map]
    rfl
  have sd : setD (dicA tuI id L0) (tuI one) odd = .ok (dicA tuI id (setA L0 one odd)) := setD_A (V := id) keyE L0 one odd (by simp only [L0, List.length_map]; unfold lim; omega)
  have hk : hasK ((setA L0 one odd).map fun p => tuI p.1) (kI other) = true := by
    rw [hasK_A keyE, setA_map _ _ _ _ ho, hasA_map]
    simp [ho']
  have dk := delK_A (V := id) keyE other (setA L0 one odd)
  rw [hH]
  have kq : keyT (tuI other) = some (kI other) := keyE.t other
  have pg : ∀ r : Env, r[6]? = some (.ow .flat (dicA tuI id (setA L0 one odd))) → r[9]? = some (.sh (tuI other)) → law_s7_4 r = .nx (r.set 6 (.ow .flat (lack27 up hf one other odd))) := fun r h6 h9 => by
    have gs : getS 9 r = .ok (tuI other) := by unfold getS; rw [h9]
    unfold law_s7_4 popG ownF
    simp only [h6]
    rw [gs]
    simp only [lift_ok, kq]
    simp only [dicA]
    rw [if_pos hk]
    rw [dk]
    rfl
  generalize (dicA tuI id (setA L0 one odd)) = H1 at *
  generalize lack27 up hf one other odd = HL at *
  generalize (dicA tuI id L0) = H0 at *
  generalize tabD lo up c = T at *
  generalize cD up c = C at *
  have a1 : law_s7_1 (E27 ns lo up (.sh C) s4 (.sh T) (.ow .flat H0) (.sh (.lst ((mems up).map tuI))) .un .un .un .un .un .un .un .un) = .nx (E27 ns lo up (.sh C) s4 (.sh T) (.ow .flat H0) (.sh (.lst ((mems up).map tuI))) (.sh (tuI one)) .un .un .un .un .un .un .un) := by
    generalize D.lst ((mems up).map tuI) = M at *
    simp [law_s7_1, E27, ce5, ln, m5, e1]
  have a2 : law_s7_2 (E27 ns lo up (.sh C) s4 (.sh T) (.ow .flat H0) (.sh (.lst ((mems up).map tuI))) (.sh (tuI one)) .un .un .un .un .un .un .un) = .nx (E27 ns lo up (.sh C) s4 (.sh T) (.ow .flat H0) (.sh (.lst ((mems up).map tuI))) (.sh (tuI one)) (.sh (tuI other)) .un .un .un .un .un .un) := by
    generalize D.lst ((mems up).map tuI) = M at *
    simp [law_s7_2, E27, ce6, ln, m6, e2]
  generalize D.lst ((mems up).map tuI) = M at *
  have a3 : law_s7_3 (E27 ns lo up (.sh C) s4 (.sh T) (.ow .flat H0) (.sh M) (.sh (tuI one)) (.sh (tuI other)) .un .un .un .un .un .un) = .nx (E27 ns lo up (.sh C) s4 (.sh T) (.ow .flat H1) (.sh M) (.sh (tuI one)) (.sh (tuI other)) .un .un .un .un .un .un) := by
    simp [law_s7_3, setG, ownF, E27, ce7, eo, sd]
  have a4 := pg (E27 ns lo up (.sh C) s4 (.sh T) (.ow .flat H1) (.sh M) (.sh (tuI one)) (.sh (tuI other)) .un .un .un .un .un .un) rfl rfl
  have a4 : law_s7_4 (E27 ns lo up (.sh C) s4 (.sh T) (.ow .flat H1) (.sh M) (.sh (tuI one)) (.sh (tuI other)) .un .un .un .un .un .un) = .nx (E27 ns lo up (.sh C) s4 (.sh T) (.ow .flat HL) (.sh M) (.sh (tuI one)) (.sh (tuI other)) .un .un .un .un .un .un) := a4
  unfold law_s7
  rw [show (getS 0 (E27 ns lo up (.sh C) s4 (.sh T) (.ow .flat H0) (.sh M) .un .un .un .un .un .un .un .un)) = .ok (.scr ns) from rfl]
  simp only [ok_bind, ce4, m4, q4, asB_bl, lift_ok, if_true]
  rw [a1]
  simp only [nx_seq, a2, a3, a4]
  simp [E27, freeze, lz, mz, qz, cs, qc]
theorem main_road {ns lo up : List Int} {c : List Int → List Int → List Int} {s4 : Slot} {hf : List Int → List Int} (t : OkT lo up) (hc : OkC lo up c) (hh : ∀ x, OkE up x → OkE lo (hf x)) :
    ((law_s8 (E27 ns lo up (.sh (cD up c)) s4 (.sh (tabD lo up c)) (.ow .flat (dicA tuI tuI ((mems up).map fun x => (x, hf x)))) (.sh (.lst ((mems up).map tuI))) .un .un .un .un .un .un .un .un)).seq fun r => (law_s9 r).seq fun r => (law_s10 r).seq fun r => (law_s11 r).seq fun r => (law_s12 r).seq fun r => (law_s13 r).seq fun r => (law_s14 r).seq fun r => (law_s15 r).seq fun r => (law_s16 r).seq fun r => (law_s17 r).seq fun r => law_s18 r) = .rt (.bl true) := by
  have l81 := t.prs_le
  have l9 := t.mems_le
  have hp81 : (prs up).length ≤ 81 := by rw [prs_len]; exact l81
  have lb := lab_F (up := up) hh
  have hz : ∀ x, OkE up x → OkE lo (zeroV lo) := fun x _ => zero_el t.g1.ok
  have lz := lab_F (up := up) hz
  have oh := fun (x y : List Int) (hx : OkE up x) (hy : OkE up y) => q_own_ok t (fun x hx => ⟨(lb x hx).1, (lb x hx).2.1⟩) hx hy
  have okc : OkC lo up (chgC lo up c hf) := fun x y hx hy => put_el t.g1.ok (hc x y hx hy).len (oh x y hx hy).1.len
  obtain ⟨ks, vs, hd, hkl, chM⟩ : ∃ ks vs, dicA tuI tuI ((mems up).map fun x => (x, hf x)) = .dic ks vs ∧ ks.length < lim ∧ d_changed [tabD lo up c, .mix ks vs (.inl 7) (tuI [7])] = .ok (tabD lo up (chgC lo up c hf)) := ⟨_, _, rfl, by simp only [List.length_map]; unfold lim; omega, changed_ok t hc (labM_mix (n := 7) (v := tuI [7]) lb)⟩
  have chZ : d_changed [tabD lo up c, dicA tuI tuI ((mems up).map fun x => (x, zeroV lo))] = .ok (tabD lo up (chgC lo up c fun _ => zeroV lo)) := changed_ok t hc (labM_dic lz)
  rw [tabD_congr (c := chgC lo up c fun _ => zeroV lo) (e := c) fun x y hx hy => chg_zero t hc hx hy] at chZ
  have ti1 := table_is27 (c' := chgC lo up c hf) t okc fun _ _ => rfl
  have ti2 := table_is27 (c' := c) t hc fun _ _ => rfl
  have cs := carries_mth (c := c) t
  have cs' := carries_mth (c := chgC lo up c hf) t
  have nc := neD_cD up c
  have qd := eqD_cD up (chgC lo up c hf)
  have am := apart_tabM lo up (chgC lo up c hf)
  have dq : dictD (dicA tuI tuI ((mems up).map fun x => (x, hf x))) = .ok (dicA tuI tuI ((mems up).map fun x => (x, hf x))) := dictD_F (E := tuI) (V := tuI) (mems up) hf (apart_mems t.small)
  have nh : neD (dicA tuI tuI ((mems up).map fun x => (x, hf x))) (dicA tuI tuI ((mems up).map fun x => (x, hf x))) = .ok (.bl false) := by
    have e := neD_F keyE (mems up) hf hf
    simp only [implies_true, decide_true, Bool.not_true] at e
    exact e
  have gc : ∀ p ∈ prs up, ixD (cD up c) (pkD p) = .ok (tuI (c p.1 p.2)) := fun p hp => getC (lo := lo) c (mem_mems.mp (mem_prs.mp hp).1) (mem_mems.mp (mem_prs.mp hp).2)
  have it : itemsD (cD up c) = .ok ((prs up).map pkD) := by
    show itemsD (dicA pkD tuI ((prs up).map fun p => (p, c p.1 p.2))) = _
    rw [itemsD_A, List.map_map]
    rfl
  generalize hT : tabD lo up c = T at *
  generalize hT' : tabD lo up (chgC lo up c hf) = T' at *
  generalize hC : cD up c = C at *
  have e8 : law_s8 (E27 ns lo up (.sh C) s4 (.sh T) (.ow .flat (dicA tuI tuI ((mems up).map fun x => (x, hf x)))) (.sh (.lst ((mems up).map tuI))) .un .un .un .un .un .un .un .un) = .nx (E27 ns lo up (.sh C) s4 (.sh T) (.ow .flat (dicA tuI tuI ((mems up).map fun x => (x, hf x)))) (.sh (.lst ((mems up).map tuI))) .un .un (.ow .flat (dicA pkD tuI ([] : List ((List Int × List Int) × List Int)))) .un .un .un .un .un) := rfl
  have l1 : 1 ≤ lim := by decide
  have tw : ∀ a b : D, tupD [a, b] = .ok (.tup [a, b]) := fun a b => rfl
  have e9 : ∃ s6 s11 s12, (s6 = .ow .flat (dicA tuI tuI ((mems up).map fun x => (x, hf x))) ∨ s6 = .sh (dicA tuI tuI ((mems up).map fun x => (x, hf x)))) ∧ law_s9 (E27 ns lo up (.sh C) s4 (.sh T) (.ow .flat (dicA tuI tuI ((mems up).map fun x => (x, hf x)))) (.sh (.lst ((mems up).map tuI))) .un .un (.ow .flat (dicA pkD tuI ([] : List ((List Int × List Int) × List Int)))) .un .un .un .un .un) = .nx (E27 ns lo up (.sh C) s4 (.sh T) s6 (.sh (.lst ((mems up).map tuI))) .un .un (.ow .flat (cD up (chgC lo up c hf))) s11 s12 .un .un .un) := by
    generalize hH : (dicA tuI tuI ((mems up).map fun x => (x, hf x))) = H at *
    generalize D.lst ((mems up).map tuI) = M at *
    let E (L : List ((List Int × List Int) × List Int)) (s6 s11 s12 : Slot) : Env := E27 ns lo up (.sh C) s4 (.sh T) s6 (.sh M) .un .un (.ow .flat (dicA pkD tuI L)) s11 s12 .un .un .un
    obtain ⟨L, r2, lp, ⟨s6, s11, s12, rfl, h6⟩, hk, hv⟩ := fillPQ (N := 81) (Q := fun p v => v = chgC lo up c hf p.1 p.2) (f := law_l1) pkD (fun L r => ∃ s6 s11 s12, r = E L s6 s11 s12 ∧ (s6 = .ow .flat H ∨ s6 = .sh H)) (X := prs up) (r := E [] (.ow .flat H) .un .un) hp81 (prs_nodup up)
      (fun L hL p hp r ⟨s6, s11, s12, e, h6⟩ => by
        subst e
        obtain ⟨m1, m2⟩ := mem_prs.mp hp
        have hx := mem_mems.mp m1
        have hy := mem_mems.mp m2
        have g1 : ixD C (.tup [tuI p.1, tuI p.2]) = .ok (tuI (c p.1 p.2)) := gc p hp
        obtain ⟨ov, eo⟩ := oh p.1 p.2 hx hy
        have sm : d_q_sum [tuI lo, tuI (c p.1 p.2), tuI (ownV lo up hf p.1 p.2)] = .ok (tuI (chgC lo up c hf p.1 p.2)) := q_sum_ok t.g1.ok (hc _ _ hx hy).len ov.len
        have sd : setD (dicA pkD tuI L) (.tup [tuI p.1, tuI p.2]) (tuI (chgC lo up c hf p.1 p.2)) = .ok (dicA pkD tuI (setA L p (chgC lo up c hf p.1 p.2))) := setD_A (V := tuI) keyP L p _ (by unfold lim; omega)
        refine ⟨chgC lo up c hf p.1 p.2, E (setA L p (chgC lo up c hf p.1 p.2)) (.sh H) (.sh (tuI p.1)) (.sh (tuI p.2)), rfl, ?_, _, _, _, rfl, .inr rfl⟩
        simp only [E]
        show law_l1 (.tup [tuI p.1, tuI p.2]) _ = _
        generalize chgC lo up c hf p.1 p.2 = w at *
        generalize ownV lo up hf p.1 p.2 = u at *
        generalize c p.1 p.2 = v at *
        generalize tuI p.1 = X at *
        generalize tuI p.2 = Y at *
        generalize (dicA pkD tuI L) = D0 at *
        generalize (dicA pkD tuI (setA L p w)) = D1 at *
        have l2 := l_two
        rcases h6 with rfl | rfl <;> simp [law_l1, law_s9_1, setG, ownF, freeze, E27, g1, eo, sm, sd, l2]) ⟨_, _, _, rfl, .inl rfl⟩
    have hv' : ∀ p ∈ L, p.2 = chgC lo up c hf p.1.1 p.1.2 := fun p hp => hv p hp
    have e := byRule (L := L) (g := fun p => chgC lo up c hf p.1 p.2) hv'
    rw [show L.map (fun p => p.1) = prs up from hk] at e
    refine ⟨s6, s11, s12, h6, ?_⟩
    simp only [E] at lp
    unfold law_s9
    rw [show (getS 3 (E27 ns lo up (.sh C) s4 (.sh T) (.ow .flat H) (.sh M) .un .un (.ow .flat (dicA pkD tuI ([] : List ((List Int × List Int) × List Int)))) .un .un .un .un .un)) = .ok C from rfl]
    simp only [ok_bind, it, lift_ok]
    rw [lp]
    rw [show dicA pkD tuI L = cD up (chgC lo up c hf) from by rw [e]; rfl]
  obtain ⟨s6, s11, s12, h6, e9⟩ := e9
  refine seq_nx27 e8 (seq_nx27 e9 ?_)
  generalize hDu : cD up (chgC lo up c hf) = Du at *
  rw [hd] at h6 dq nh
  have im : itemsD (.lst ((mems up).map tuI)) = .ok ((mems up).map tuI) := rfl
  generalize hM : D.lst ((mems up).map tuI) = M at *
  refine seq_nx27 (r1 := E27 ns lo up (.sh C) s4 (.sh T) s6 (.sh M) .un .un (.ow .flat Du) s11 s12 (.ow .flat (.dic ks vs)) .un .un) (by rcases h6 with rfl | rfl <;> simp [law_s10, getR, E27, dq]) ?_
  refine seq_nx27 (r1 := E27 ns lo up (.sh C) s4 (.sh T) s6 (.sh M) .un .un (.ow .flat Du) s11 s12 (.ow .flat (.mix ks vs (.inl 7) (tuI [7]))) .un .un) (by simp [law_s11, setMG, E27, hkl, l1]) ?_
  refine seq_nx27 (r1 := E27 ns lo up (.sh C) s4 (.sh T) s6 (.sh M) .un .un (.ow .flat Du) s11 s12 (.ow .flat (.mix ks vs (.inl 7) (tuI [7]))) (.sh T') .un) (by simp [law_s12, lendMR, freeze, E27, chM, am]) ?_
  refine seq_nx27 (r1 := E27 ns lo up (.sh C) s4 (.sh T) s6 (.sh M) .un .un (.ow .flat Du) s11 s12 (.ow .flat (.dic ks vs)) (.sh T') .un) (by simp [law_s13, popMG, E27]) ?_
  refine seq_nx27 (r1 := E27 ns lo up (.sh C) s4 (.sh T) s6 (.sh M) .un .un (.sh Du) s11 s12 (.ow .flat (.dic ks vs)) (.sh T') .un) (by rcases h6 with rfl | rfl <;> simp [law_s14, getR, freeze, E27, nh, ti1, cs, nc]) ?_
  refine seq_nx27 (r1 := E27 ns lo up (.sh C) s4 (.sh T) s6 (.sh M) .un .un (.sh Du) s11 s12 (.ow .flat (.dic ks vs)) (.sh T') (.ow .flat (dicA tuI tuI ([] : List (List Int × List Int))))) (by simp [law_s15, E27, dicA]) ?_
  have e16 : ∃ s11', law_s16 (E27 ns lo up (.sh C) s4 (.sh T) s6 (.sh M) .un .un (.sh Du) s11 s12 (.ow .flat (.dic ks vs)) (.sh T') (.ow .flat (dicA tuI tuI ([] : List (List Int × List Int))))) = .nx (E27 ns lo up (.sh C) s4 (.sh T) s6 (.sh M) .un .un (.sh Du) s11' s12 (.ow .flat (.dic ks vs)) (.sh T') (.ow .flat (dicA tuI tuI ((mems up).map fun x => (x, zeroV lo))))) := by
    let E (L : List (List Int × List Int)) (s11 : Slot) : Env := E27 ns lo up (.sh C) s4 (.sh T) s6 (.sh M) .un .un (.sh Du) s11 s12 (.ow .flat (.dic ks vs)) (.sh T') (.ow .flat (dicA tuI tuI L))
    obtain ⟨L, r2, lp, ⟨s11', rfl⟩, hk, hv⟩ := fillKQ (N := 9) (Q := fun x v => v = zeroV lo) (f := law_l3) tuI (fun x : List Int => x) (fun L r => ∃ s11, r = E L s11) (X := mems up) (L := []) (r := E [] s11) (by simpa using l9) (by simpa using mems_nodup up) (by simp)
      (fun L hL x hx hm r ⟨s11, e⟩ => by
        subst e
        have sd : setD (dicA tuI tuI L) (tuI x) (tuI (zeroV lo)) = .ok (dicA tuI tuI (setA L x (zeroV lo))) := setD_A (V := tuI) keyE L x (zeroV lo) (by unfold lim; omega)
        have lc : ∀ r : Env, law_c2 r (lo.map D.int) = .ok ((zeroV lo).map D.int) := fun r => by
          unfold law_c2
          rw [lcD_ints (fun _ => D.int 0) fun a _ => ⟨rfl, rfl⟩, zero_ok']
        have il : itemsD (tuI lo) = .ok (lo.map D.int) := rfl
        have lz7 : ((zeroV lo).map D.int).length ≤ lim := by
          have := t.g1.ok.len
          rw [List.length_map, show (zeroV lo).length = lo.length from by simp [zeroV]]
          unfold lim
          omega
        have ls : lstD ((zeroV lo).map D.int) = .ok (.lst ((zeroV lo).map D.int)) := by unfold lstD; rw [if_pos lz7]
        have tp : tupleD (.lst ((zeroV lo).map D.int)) = .ok (tuI (zeroV lo)) := rfl
        refine ⟨zeroV lo, E (setA L x (zeroV lo)) (.sh (tuI x)), rfl, ?_, _, rfl⟩
        simp only [E]
        generalize (dicA tuI tuI L) = D0 at *
        generalize (dicA tuI tuI (setA L x (zeroV lo))) = D1 at *
        generalize (zeroV lo).map D.int = zs at *
        generalize tuI (zeroV lo) = Z at *
        simp [law_l3, law_s16_1, setG, ownF, E27, il, lc, ls, tp, sd, -lstD, -tupleD, -itemsD]) ⟨_, rfl⟩
    simp only [List.nil_append] at *
    have hk : L.map (·.1) = mems up := by simpa using hk
    have hv' : ∀ p ∈ L, p.2 = zeroV lo := fun p hp => hv p hp
    have e := byRule (L := L) (g := fun _ => zeroV lo) hv'
    rw [show L.map (fun p => p.1) = mems up from hk] at e
    refine ⟨s11', ?_⟩
    simp only [E] at lp
    unfold law_s16
    rw [show (getS 7 (E27 ns lo up (.sh C) s4 (.sh T) s6 (.sh M) .un .un (.sh Du) s11 s12 (.ow .flat (.dic ks vs)) (.sh T') (.ow .flat (dicA tuI tuI ([] : List (List Int × List Int)))))) = .ok M from rfl]
    simp only [ok_bind, im, lift_ok]
    rw [lp, e]
  obtain ⟨s11', e16⟩ := e16
  refine seq_nx27 e16 ?_
  refine seq_nx27 (r1 := E27 ns lo up (.sh C) s4 (.sh T) s6 (.sh M) .un .un (.sh Du) s11' s12 (.ow .flat (.dic [] [])) (.sh T') (.ow .flat (dicA tuI tuI ((mems up).map fun x => (x, zeroV lo))))) (by simp [law_s17, clrG, ownF, E27]) ?_
  generalize dicA tuI tuI ((mems up).map fun x => (x, zeroV lo)) = Z at *
  simp [law_s18, freeze, getR, E27, chZ, ti2, cs', qd]
theorem law_ok (ns : List Int) (hl : ns.length ≤ 63) : d_law [.scr ns] = .ok (.bl true) := by
  have ce := fun (k : Int) (h0 : 0 ≤ k) (h : k ≤ 100) => q_cell_ok ns k h0 (by omega)
  obtain ⟨k4, ce4⟩ := ce 4 (by omega) (by omega)
  obtain ⟨k5, ce5⟩ := ce 5 (by omega) (by omega)
  obtain ⟨k6, ce6⟩ := ce 6 (by omega) (by omega)
  obtain ⟨k7, ce7⟩ := ce 7 (by omega) (by omega)
  obtain ⟨lo, up, c, s4, hf, hlo, hup, hc, hh, go⟩ := first27 ns hl
  have t := okT33 hlo hup
  refine runD_rt rfl (go _ _ ?_)
  by_cases h4 : k4 % 4 = 1
  · rw [lack_road hlo hup hh ⟨k4, ce4, h4⟩ ce5 ce6 ce7]
    rfl
  · refine seq_nx27 ?_ (main_road (ns := ns) (s4 := s4) t hc hh)
    have mo : modD (.int k4) (.int 4) = .ok (.int (k4 % 4)) := modD_ok (by omega)
    have q : eqD (.int (k4 % 4)) (.int 1) = .ok (.bl false) := by rw [eqD_int, decide_eq_false h4]
    simp [law_s7, E27, ce4, mo, q, -eqD_int]
end Mir.K27
open PySem PySem.W PyProof.Rows
theorem PySem.Challenge.cw_carrytower_k27_changed_holds : PySem.Challenge.rw_carrytower_k27_changed.Holds := by
  w_on; o_law; k_head; (case hw => w_witness2)
  k_fill
  refine Mir.walk_mir (l := PySem.Challenge.rw_carrytower_k27_changed) (k := 8) (x := "_law_script") (g := Mir.K27.d_law) rfl rfl ⟨rfl, by decide, by decide⟩ (fun w h Y => by first | exact PySem.W.kIn_of Y | exact PySem.W.km_in_of Y) Mir.K27.law_ok ?F
  case F =>
    intro w mg fa h KX G hmg
    refine' Mir.K27.all_mk KX G hmg ?aC_CarryError ?aC_NoRounds ?aC_NoElement ?aC_NoLower ?aC_NoUpper ?aC_NoCarry ?aC_NoRelabeling ?aC_Group ?aC_Rounds ?aC_Table ?a_q_rounds ?l_q_rounds ?c_q_rounds ?k_q_rounds ?a_q_cell ?l_q_cell ?c_q_cell ?k_q_cell ?a_q_all ?l_q_all ?c_q_all ?k_q_all ?a_q_drawn ?l_q_drawn ?c_q_drawn ?k_q_drawn ?a_q_size ?l_q_size ?c_q_size ?k_q_size ?a_q_any ?l_q_any ?c_q_any ?k_q_any ?a_q_shared ?l_q_shared ?c_q_shared ?k_q_shared ?a_q_odd ?l_q_odd ?c_q_odd ?k_q_odd ?a_q_parts ?l_q_parts ?c_q_parts ?k_q_parts ?a_q_sum ?l_q_sum ?c_q_sum ?k_q_sum ?a_q_times ?l_q_times ?c_q_times ?k_q_times ?a_q_carry ?l_q_carry ?c_q_carry ?k_q_carry ?a_q_own ?l_q_own ?c_q_own ?k_q_own ?a_q_carries ?l_q_carries ?c_q_carries ?k_q_carries ?a_q_labels ?l_q_labels ?c_q_labels ?k_q_labels ?a_Rounds_members ?l_Rounds_members ?c_Rounds_members ?k_Rounds_members ?i_Rounds_members ?a_Group_size ?l_Group_size ?c_Group_size ?k_Group_size ?i_Group_size ?a_Rounds_is_even ?l_Rounds_is_even ?c_Rounds_is_even ?k_Rounds_is_even ?i_Rounds_is_even ?a_look_at_groups ?l_look_at_groups ?c_look_at_groups ?k_look_at_groups ?a_is_whole ?l_is_whole ?c_is_whole ?k_is_whole ?a_Rounds_has ?l_Rounds_has ?c_Rounds_has ?k_Rounds_has ?i_Rounds_has ?a_NoCarry_init ?l_NoCarry_init ?c_NoCarry_init ?k_NoCarry_init ?a_Table_init ?l_Table_init ?c_Table_init ?k_Table_init ?i_Table_init ?a_are_rounds ?l_are_rounds ?c_are_rounds ?k_are_rounds ?a_Rounds_init ?l_Rounds_init ?c_Rounds_init ?k_Rounds_init ?i_Rounds_init ?a_q_odd_thing ?l_q_odd_thing ?c_q_odd_thing ?k_q_odd_thing ?a_NoRelabeling_init ?l_NoRelabeling_init ?c_NoRelabeling_init ?k_NoRelabeling_init ?a_labels_of ?l_labels_of ?c_labels_of ?k_labels_of ?a_Table_carries ?l_Table_carries ?c_Table_carries ?k_Table_carries ?i_Table_carries ?a_Group_look_at ?l_Group_look_at ?c_Group_look_at ?k_Group_look_at ?i_Group_look_at ?a_Rounds_put ?l_Rounds_put ?c_Rounds_put ?k_Rounds_put ?i_Rounds_put ?a_Group_added ?l_Group_added ?c_Group_added ?k_Group_added ?i_Group_added ?a_Rounds_backed ?l_Rounds_backed ?c_Rounds_backed ?k_Rounds_backed ?i_Rounds_backed ?a_Group_back ?l_Group_back ?c_Group_back ?k_Group_back ?i_Group_back ?a_own_carry ?l_own_carry ?c_own_carry ?k_own_carry ?a_changed ?l_changed ?c_changed ?k_changed ?a_q_lacks ?l_q_lacks ?c_q_lacks ?k_q_lacks ?a_q_whole ?l_q_whole ?c_q_whole ?k_q_whole ?a_q_are ?l_q_are ?c_q_are ?k_q_are ?a_q_table_is ?l_q_table_is ?c_q_table_is ?k_q_table_is ?a_law ?l_law ?c_law ?k_law ?z_len ?z_range ?z_tuple ?z_zip ?fl_rounds ?z_MOST_LOWER ?ob_NoLower ?z_isinstance ?z_MOST_UPPER ?ob_NoUpper ?fl_lower ?fl_upper ?fl_kept ?z_int ?z_bool ?xL_NoCarry ?rv_NoCarry ?ob_NoCarry ?tI_NoCarry ?no_NoCarry_y ?no_NoCarry_x ?z_list ?z_MOST_ROUNDS ?z_MOST_ELEMENTS ?ob_NoRounds ?z_dict ?xL_NoRelabeling ?rv_NoRelabeling ?ob_NoRelabeling ?tI_NoRelabeling ?no_NoRelabeling_x ?ob_NoElement ?xl_x ?z_min ?z_all ?hIs ?hCt ?mk_Rounds ?kc_Rounds ?mk_Table ?kc_Table ?am_Rounds_size ?am_Rounds_look_at ?am_Rounds_added ?am_Rounds_back ?oB
    (case aC_CarryError => k_is)
    (case aC_NoRounds => k_is)
    (case aC_NoElement => k_is)
    (case aC_NoLower => k_is)
    (case aC_NoUpper => k_is)
    (case aC_NoCarry => k_is)
    (case aC_NoRelabeling => k_is)
    (case aC_Group => k_is)
    (case aC_Rounds => k_is)
    (case aC_Table => k_is)
    (case a_q_rounds => k_is)
    (case l_q_rounds => k_is)
    (case c_q_rounds => k_is)
    (case k_q_rounds => k_is)
    (case a_q_cell => k_is)
    (case l_q_cell => k_is)
    (case c_q_cell => k_is)
    (case k_q_cell => k_is)
    (case a_q_all => k_is)
    (case l_q_all => k_is)
    (case c_q_all => k_is)
    (case k_q_all => k_is)
    (case a_q_drawn => k_is)
    (case l_q_drawn => k_is)
    (case c_q_drawn => k_is)
    (case k_q_drawn => k_is)
    (case a_q_size => k_is)
    (case l_q_size => k_is)
    (case c_q_size => k_is)
    (case k_q_size => k_is)
    (case a_q_any => k_is)
    (case l_q_any => k_is)
    (case c_q_any => k_is)
    (case k_q_any => k_is)
    (case a_q_shared => k_is)
    (case l_q_shared => k_is)
    (case c_q_shared => k_is)
    (case k_q_shared => k_is)
    (case a_q_odd => k_is)
    (case l_q_odd => k_is)
    (case c_q_odd => k_is)
    (case k_q_odd => k_is)
    (case a_q_parts => k_is)
    (case l_q_parts => k_is)
    (case c_q_parts => k_is)
    (case k_q_parts => k_is)
    (case a_q_sum => k_is)
    (case l_q_sum => k_is)
    (case c_q_sum => k_is)
    (case k_q_sum => k_is)
    (case a_q_times => k_is)
    (case l_q_times => k_is)
    (case c_q_times => k_is)
    (case k_q_times => k_is)
    (case a_q_carry => k_is)
    (case l_q_carry => k_is)
    (case c_q_carry => k_is)
    (case k_q_carry => k_is)
    (case a_q_own => k_is)
    (case l_q_own => k_is)
    (case c_q_own => k_is)
    (case k_q_own => k_is)
    (case a_q_carries => k_is)
    (case l_q_carries => k_is)
    (case c_q_carries => k_is)
    (case k_q_carries => k_is)
    (case a_q_labels => k_is)
    (case l_q_labels => k_is)
    (case c_q_labels => k_is)
    (case k_q_labels => k_is)
    (case a_Rounds_members => k_is)
    (case l_Rounds_members => k_is)
    (case c_Rounds_members => k_is)
    (case k_Rounds_members => k_is)
    (case i_Rounds_members => k_is)
    (case a_Group_size => k_is)
    (case l_Group_size => k_is)
    (case c_Group_size => k_is)
    (case k_Group_size => k_is)
    (case i_Group_size => k_is)
    (case a_Rounds_is_even => k_is)
    (case l_Rounds_is_even => k_is)
    (case c_Rounds_is_even => k_is)
    (case k_Rounds_is_even => k_is)
    (case i_Rounds_is_even => k_is)
    (case a_look_at_groups => k_is)
    (case l_look_at_groups => k_is)
    (case c_look_at_groups => k_is)
    (case k_look_at_groups => k_is)
    (case a_is_whole => k_is)
    (case l_is_whole => k_is)
    (case c_is_whole => k_is)
    (case k_is_whole => k_is)
    (case a_Rounds_has => k_is)
    (case l_Rounds_has => k_is)
    (case c_Rounds_has => k_is)
    (case k_Rounds_has => k_is)
    (case i_Rounds_has => k_is)
    (case a_NoCarry_init => k_is)
    (case l_NoCarry_init => k_is)
    (case c_NoCarry_init => k_is)
    (case k_NoCarry_init => k_is)
    (case a_Table_init => k_is)
    (case l_Table_init => k_is)
    (case c_Table_init => k_is)
    (case k_Table_init => k_is)
    (case i_Table_init => k_is)
    (case a_are_rounds => k_is)
    (case l_are_rounds => k_is)
    (case c_are_rounds => k_is)
    (case k_are_rounds => k_is)
    (case a_Rounds_init => k_is)
    (case l_Rounds_init => k_is)
    (case c_Rounds_init => k_is)
    (case k_Rounds_init => k_is)
    (case i_Rounds_init => k_is)
    (case a_q_odd_thing => k_is)
    (case l_q_odd_thing => k_is)
    (case c_q_odd_thing => k_is)
    (case k_q_odd_thing => k_is)
    (case a_NoRelabeling_init => k_is)
    (case l_NoRelabeling_init => k_is)
    (case c_NoRelabeling_init => k_is)
    (case k_NoRelabeling_init => k_is)
    (case a_labels_of => k_is)
    (case l_labels_of => k_is)
    (case c_labels_of => k_is)
    (case k_labels_of => k_is)
    (case a_Table_carries => k_is)
    (case l_Table_carries => k_is)
    (case c_Table_carries => k_is)
    (case k_Table_carries => k_is)
    (case i_Table_carries => k_is)
    (case a_Group_look_at => k_is)
    (case l_Group_look_at => k_is)
    (case c_Group_look_at => k_is)
    (case k_Group_look_at => k_is)
    (case i_Group_look_at => k_is)
    (case a_Rounds_put => k_is)
    (case l_Rounds_put => k_is)
    (case c_Rounds_put => k_is)
    (case k_Rounds_put => k_is)
    (case i_Rounds_put => k_is)
    (case a_Group_added => k_is)
    (case l_Group_added => k_is)
    (case c_Group_added => k_is)
    (case k_Group_added => k_is)
    (case i_Group_added => k_is)
    (case a_Rounds_backed => k_is)
    (case l_Rounds_backed => k_is)
    (case c_Rounds_backed => k_is)
    (case k_Rounds_backed => k_is)
    (case i_Rounds_backed => k_is)
    (case a_Group_back => k_is)
    (case l_Group_back => k_is)
    (case c_Group_back => k_is)
    (case k_Group_back => k_is)
    (case i_Group_back => k_is)
    (case a_own_carry => k_is)
    (case l_own_carry => k_is)
    (case c_own_carry => k_is)
    (case k_own_carry => k_is)
    (case a_changed => k_is)
    (case l_changed => k_is)
    (case c_changed => k_is)
    (case k_changed => k_is)
    (case a_q_lacks => k_is)
    (case l_q_lacks => k_is)
    (case c_q_lacks => k_is)
    (case k_q_lacks => k_is)
    (case a_q_whole => k_is)
    (case l_q_whole => k_is)
    (case c_q_whole => k_is)
    (case k_q_whole => k_is)
    (case a_q_are => k_is)
    (case l_q_are => k_is)
    (case c_q_are => k_is)
    (case k_q_are => k_is)
    (case a_q_table_is => k_is)
    (case l_q_table_is => k_is)
    (case c_q_table_is => k_is)
    (case k_q_table_is => k_is)
    (case a_law => k_is)
    (case l_law => k_is)
    (case c_law => k_is)
    (case k_law => k_is)
    (case z_len => k_is)
    (case z_range => k_is)
    (case z_tuple => k_is)
    (case z_zip => k_is)
    (case fl_rounds => kernel_rfl)
    (case z_MOST_LOWER => k_is)
    (case ob_NoLower => kernel_rfl)
    (case z_isinstance => k_is)
    (case z_MOST_UPPER => k_is)
    (case ob_NoUpper => kernel_rfl)
    (case fl_lower => kernel_rfl)
    (case fl_upper => kernel_rfl)
    (case fl_kept => kernel_rfl)
    (case z_int => k_is)
    (case z_bool => k_is)
    (case xL_NoCarry => k_is)
    (case rv_NoCarry => decide +kernel)
    (case ob_NoCarry => kernel_rfl)
    (case tI_NoCarry => k_is)
    (case no_NoCarry_y => k_is)
    (case no_NoCarry_x => k_is)
    (case z_list => k_is)
    (case z_MOST_ROUNDS => k_is)
    (case z_MOST_ELEMENTS => k_is)
    (case ob_NoRounds => kernel_rfl)
    (case z_dict => k_is)
    (case xL_NoRelabeling => k_is)
    (case rv_NoRelabeling => decide +kernel)
    (case ob_NoRelabeling => kernel_rfl)
    (case tI_NoRelabeling => k_is)
    (case no_NoRelabeling_x => k_is)
    (case ob_NoElement => kernel_rfl)
    (case xl_x => kernel_rfl)
    (case z_min => k_is)
    (case z_all => k_is)
    (case hIs => kernel_rfl)
    (case hCt => kernel_rfl)
    (case mk_Rounds => k_is)
    (case kc_Rounds => k_is)
    (case mk_Table => k_is)
    (case kc_Table => k_is)
    (case am_Rounds_size => k_is)
    (case am_Rounds_look_at => k_is)
    (case am_Rounds_added => k_is)
    (case am_Rounds_back => k_is)
    (case oB => kernel_rfl)
