import PyProof.Rows.All
import Wide.All
import OpenK.AllK
import Wide.FinOn
import HandS.ForMost
import HandS.Lambda
import HandS.ForExc
import HandS.IsInst
import KE.KDictKeyed
import HandS.CallSlots
import HandS.ExcInit
import HandS.ExcCtx
import HandS.WordsExc
import HandS.Small
import HandS.TupAny
import HandS.TupMul
import HandS.Wide
import HandS.Deep
import HandS.Style
import HandS.Conv
import HandS.ExcIs
import HandS.Walk
import KE.KExcIs
import HandS.TupLen
import HandS.ExcValue
import HandS.ExcField
import HandS.TryMany
import HandS.EndTab
import HandS.Zip
import KE.GoesMore
import KE.KDictOf
import KE.KEqDict
import PyProof.EnumMake
import PyProof.Draws
import KE.KDictDisplayH
import PyProof.DictDisplay
import HandS.SortOrd
import HandS.NamedTupSort
import KE.KDictSum
import KE.KDictCopyH
import KE.KDictZip
import HandS.Rev
import HandS.Nested
import KE.SortData
import KE.KEqNest
import HandS.TryOnly
import HandS.Sort
import HandS.Text
import HandS.More
import HandS.Flow
import HandS.HotCalls
import PySem.Challenge.RW_carrytower_k02_no_rounds
set_option Elab.async false
set_option linter.all false
set_option maxRecDepth 100000
namespace Mir
open PySem PySem.Spec PyProof.Rows L2
/-- data -/
inductive D where
  | non | bl (b : Bool) | int (i : Int) | str (s : Str)
  | tup (xs : List D) | lst (xs : List D)
  | scr (ns : List Int)
  | dic (ks : List D) (vs : List D)
  | dct (ks : List Key) (vs : List D)
  | mix (ks : List D) (vs : List D) (k : Key) (v : D)
  | opq
  | obj (c : Nat) (vs : List D)
  | exc (c : Nat) (vs : List D)
  | cls (c : Nat) | ty (n : String)
  deriving Inhabited
/-- the classes by numbers: their names, their attributes in order -/
noncomputable def cname : Nat → Str
  | 0 => "Rounds" | 1 => "Tower" | 2 => "Table" | 3 => "Map" | 4 => "Desk" | 5 => "Group"
  | 10 => "CarryError" | 11 => "NoRounds" | 12 => "NoElement" | 13 => "NoLower" | 14 => "NoUpper" | 15 => "NoHead" | 16 => "NotLike" | 17 => "NoCount" | 18 => "NoPair"
  | 19 => "NoKind" | 20 => "NoLine" | 21 => "NothingDone" | 22 => "NoText" | 23 => "NoCarry" | 24 => "NoTower" | 25 => "Uneven" | 26 => "NoRelabeling" | 27 => "TooMany" | 28 => "NoMap" | 29 => "NoName"
  | _ => ""
noncomputable def cflds : Nat → List Str
  | 0 => ["rounds"] | 1 => ["table", "ground"] | 2 => ["lower", "upper", "kept"] | 3 => ["source", "goal", "images"] | 4 => ["kept", "past"]
  | 22 => ["at"] | 23 => ["y", "x"] | 24 => ["three"] | 25 => ["two"] | 26 => ["x"] | 27 => ["many"] | 28 => ["head"] | 29 => ["name"]
  | _ => []
inductive Res (α : Type) where
  | ok (a : α) | er (e : D) | bad
@[inline] noncomputable def Res.bind {α β : Type} (r : Res α) (f : α → Res β) : Res β := match r with
  | .ok a => f a
  | .er e => .er e
  | .bad => .bad
noncomputable instance : Monad Res where
  pure := .ok
  bind := Res.bind
@[simp] theorem ok_bind {α β : Type} (a : α) (f : α → Res β) : (Res.ok a >>= f) = f a := rfl
@[simp] theorem er_bind {α β : Type} (e : D) (f : α → Res β) : ((Res.er e : Res α) >>= f) = .er e := rfl
@[simp] theorem bad_bind {α β : Type} (f : α → Res β) : ((Res.bad : Res α) >>= f) = .bad := rfl
@[simp] theorem pure_ok {α : Type} (a : α) : (pure a : Res α) = .ok a := rfl
/-- the ground: what the module has written -/
structure GC where
  P : Program
  w : World
  K : PySem.W.Frag
  mg : Str → Option Value
/-- where the class stands -/
noncomputable def GC.ca (G : GC) (c : Nat) : Addr := match G.mg (cname c) with
  | some (.ref C) => C
  | _ => 0
noncomputable abbrev gOf (X : Cx) : GC := ⟨X.prog, X.w, X.K, X.mg⟩
/-- a datum as a key -/
noncomputable def keyOf : D → Option NestedKey
  | .non => some .none
  | .bl b => some (.num (if b = true then 1 else 0))
  | .int i => some (.num i)
  | .str s => some (.text s)
  | .tup xs => (keysOf xs).map .tup
  | _ => none
where keysOf : List D → Option (List NestedKey)
  | [] => some []
  | x :: xs => match keyOf x, keysOf xs with
    | some k, some ks => some (k :: ks)
    | _, _ => none
/-- at a stands a dict with the entries' keys at addresses and values -/
structure DicO (G : GC) (o : Obj) (xs : List (NestedKey × Addr × Value)) : Prop where
  ex : o.ExactDict
  dat : ∃ es ep, o.data = .dict es ep ∧ es.toList = xs.map (entryOfKey (nestedKind G.P G.w))
  nd : (xs.map (·.1)).Nodup
  dp : ∀ x ∈ xs, x.1.depth ≤ 8
  sz : xs.length ≤ sizeLine
/-- .. and a last entry whose key is a number or a text -/
structure MixO (G : GC) (o : Obj) (xs : List (NestedKey × Addr × Value)) (k : Key) (u : Value) : Prop where
  ex : o.ExactDict
  dat : ∃ es ep kv, o.data = .dict es ep ∧ RelV (kV k) kv ∧ es.toList = xs.map (entryOfKey (nestedKind G.P G.w)) ++ [⟨(mixKind G.P G.w).hash k, kv, u⟩]
  nd : (xs.map (·.1)).Nodup
  dp : ∀ x ∈ xs, x.1.depth ≤ 8
  sz : xs.length < sizeLine
/-- at a stands a dict of the module, its keys numbers and texts -/
noncomputable def KDct (G : GC) (a : Addr) (kvs : List (Key × V)) : Prop := (a == sysModules) = false ∧ kvs.length ≤ sizeLine ∧ ∃ o, G.K.lookup a = some o ∧ ∀ h : Heap, h.get? a = some o → ∃ vs, KV kvs vs ∧ h.DictOf (mixKind G.P G.w) a vs
noncomputable def isObj' (a : Addr) (o : Obj) : Heap → Prop := fun h => h.get? a = some o
noncomputable def isExc (a : Addr) (C : Addr) (d : Option Addr) : Heap → Prop := fun h => ∃ oe vs, h.get? a = some oe ∧ oe.cls = .ref C ∧ oe.dict = d ∧ oe.data = .fields vs ∧ vs[2]? = some .none
mutual
/-- v bears d in F -/
inductive Rep (G : GC) (F : Hp) : V → D → Prop
  | non : Rep G F .non .non
  | bl (b : Bool) : Rep G F (.bl b) (.bl b)
  | int (i : Int) : Rep G F (.int i) (.int i)
  | str (s : Str) : Rep G F (.str s) (.str s)
  | tup {a : Addr} {vs : List V} {ds : List D} : SqT G.K F a vs → RepAll G F vs ds → Rep G F (.ref a) (.tup ds)
  | lst {a : Addr} {vs : List V} {ds : List D} : F a = some (.lst vs) → RepAll G F vs ds → Rep G F (.ref a) (.lst ds)
  | scr {a : Addr} {ns : List Int} : SqL G.K F a (ns.map V.int) → Rep G F (.ref a) (.scr ns)
  | dic {a : Addr} {o : Obj} {xs : List (NestedKey × Addr × Value)} {ws : List V} {ks vs : List D} : F a = some (.ext (isObj' a o)) → (a == sysModules) = false → DicO G o xs → Vals ws (xs.map (·.2.2)) →
      RepAll G F (xs.map fun x => V.ref x.2.1) ks → ks.map keyOf = xs.map (fun x => some x.1) → RepAll G F ws vs → Rep G F (.ref a) (.dic ks vs)
  | dct {a : Addr} {kvs : List (Key × V)} {ks : List Key} {vs : List D} : F a = some (.dK kvs) → ks = kvs.map (·.1) → RepAll G F (kvs.map (·.2)) vs → Rep G F (.ref a) (.dct ks vs)
  | dctK {a : Addr} {kvs : List (Key × V)} {ks : List Key} {vs : List D} : KDct G a kvs → ks = kvs.map (·.1) → RepAll G F (kvs.map (·.2)) vs → Rep G F (.ref a) (.dct ks vs)
  | mix {a : Addr} {o : Obj} {xs : List (NestedKey × Addr × Value)} {ws : List V} {ks vs : List D} {k : Key} {u : Value} {w : V} {v : D} : F a = some (.ext (isObj' a o)) → (a == sysModules) = false → MixO G o xs k u → Vals ws (xs.map (·.2.2)) →
      RepAll G F (xs.map fun x => V.ref x.2.1) ks → ks.map keyOf = xs.map (fun x => some x.1) → RepAll G F ws vs → RelV w u → Rep G F w v → Rep G F (.ref a) (.mix ks vs k v)
  | opq {a : Addr} : Rep G F (.ref a) .opq
  | obj {a dx : Addr} {c : Nat} {ws : List V} {vs : List D} : F a = some (.ins (G.ca c) dx ((cflds c).zip ws)) → ws.length ≤ (cflds c).length → RepAll G F ws vs → Rep G F (.ref a) (.obj c vs)
  | exc {a : Addr} {c : Nat} : F a = some (.ext (isExc a (G.ca c) none)) → cflds c = [] → Rep G F (.ref a) (.exc c [])
  | excF {a dx : Addr} {c : Nat} {ws : List V} {vs : List D} : F a = some (.ext (isExc a (G.ca c) (some dx))) → F dx = some (.xd ((cflds c).zip ws)) → ws.length = (cflds c).length → RepAll G F ws vs → Rep G F (.ref a) (.exc c vs)
  | cls {C : Addr} {c : Nat} : G.mg (cname c) = some (.ref C) → Rep G F (.ref C) (.cls c)
  | ty (n : String) : Rep G F (.ty n) (.ty n)
inductive RepAll (G : GC) (F : Hp) : List V → List D → Prop
  | nil : RepAll G F [] []
  | cons {v : V} {d : D} {vs : List V} {ds : List D} : Rep G F v d → RepAll G F vs ds → RepAll G F (v :: vs) (d :: ds)
end
theorem Same.sqT {K : PySem.W.Frag} {H H' : Hp} {a : Addr} {xs : List V} (e : Same H H') (h : SqT K H a xs) : SqT K H' a xs := by
  rcases h with (h | ⟨o, h⟩) | h
  · exact .inl (.inl (e _ _ h))
  · exact .inl (.inr ⟨o, e _ _ h⟩)
  · exact .inr h
mutual
theorem Rep.mono {G : GC} {F F' : Hp} (s : Same F F') : ∀ {v : V} {d : D}, Rep G F v d → Rep G F' v d
  | _, _, .non => .non
  | _, _, .bl b => .bl b
  | _, _, .int i => .int i
  | _, _, .str x => .str x
  | _, _, .tup h r => .tup (Same.sqT s h) (RepAll.mono s r)
  | _, _, .lst h r => .lst (s _ _ h) (RepAll.mono s r)
  | _, _, .scr h => .scr (s.seq h)
  | _, _, .dic h1 h2 h3 h4 h5 h6 h7 => .dic (s _ _ h1) h2 h3 h4 (RepAll.mono s h5) h6 (RepAll.mono s h7)
  | _, _, .dct h z r => .dct (s _ _ h) z (RepAll.mono s r)
  | _, _, .dctK h z r => .dctK h z (RepAll.mono s r)
  | _, _, .mix h1 h2 h3 h4 h5 h6 h7 h8 h9 => .mix (s _ _ h1) h2 h3 h4 (RepAll.mono s h5) h6 (RepAll.mono s h7) h8 (Rep.mono s h9)
  | _, _, .opq => .opq
  | _, _, .obj h z r => .obj (s _ _ h) z (RepAll.mono s r)
  | _, _, .exc h z => .exc (s _ _ h) z
  | _, _, .excF h1 h2 z r => .excF (s _ _ h1) (s _ _ h2) z (RepAll.mono s r)
  | _, _, .cls h => .cls h
  | _, _, .ty n => .ty n
theorem RepAll.mono {G : GC} {F F' : Hp} (s : Same F F') : ∀ {vs : List V} {ds : List D}, RepAll G F vs ds → RepAll G F' vs ds
  | _, _, .nil => .nil
  | _, _, .cons r t => .cons (Rep.mono s r) (RepAll.mono s t)
end
section
variable {G : GC} {F : Hp}
theorem RepAll.length : ∀ {vs : List V} {ds : List D}, RepAll G F vs ds → vs.length = ds.length
  | _, _, .nil => rfl
  | _, _, .cons _ t => congrArg (· + 1) (RepAll.length t)
theorem RepAll.get : ∀ {vs : List V} {ds : List D} {i : Nat} {d : D}, RepAll G F vs ds → ds[i]? = some d → ∃ v, vs[i]? = some v ∧ Rep G F v d
  | _, _, _, _, .nil, e => by simp at e
  | _, _, 0, _, .cons r _, e => by simp at e; subst e; exact ⟨_, rfl, r⟩
  | _, _, i + 1, d, .cons _ t, e => by
    obtain ⟨v, h1, h2⟩ := RepAll.get (i := i) (d := d) t (by simpa using e)
    exact ⟨v, by simpa using h1, h2⟩
theorem RepAll.getV : ∀ {vs : List V} {ds : List D} {i : Nat} {v : V}, RepAll G F vs ds → vs[i]? = some v → ∃ d, ds[i]? = some d ∧ Rep G F v d
  | _, _, _, _, .nil, e => by simp at e
  | _, _, 0, _, .cons r _, e => by simp at e; subst e; exact ⟨_, rfl, r⟩
  | _, _, i + 1, v, .cons _ t, e => by
    obtain ⟨d, h1, h2⟩ := RepAll.getV (i := i) (v := v) t (by simpa using e)
    exact ⟨d, by simpa using h1, h2⟩
theorem RepAll.append : ∀ {vs ws : List V} {ds es : List D}, RepAll G F vs ds → RepAll G F ws es → RepAll G F (vs ++ ws) (ds ++ es)
  | _, _, _, _, .nil, s => s
  | _, _, _, _, .cons r t, s => .cons r (RepAll.append t s)
theorem RepAll.set {v : V} {d : D} (r : Rep G F v d) : ∀ {vs : List V} {ds : List D} (i : Nat), RepAll G F vs ds → RepAll G F (vs.set i v) (ds.set i d)
  | _, _, _, .nil => .nil
  | _, _, 0, .cons _ t => .cons r t
  | _, _, i + 1, .cons q t => .cons q (RepAll.set r i t)
theorem RepAll.take : ∀ {vs : List V} {ds : List D} (n : Nat), RepAll G F vs ds → RepAll G F (vs.take n) (ds.take n)
  | _, _, 0, _ => .nil
  | _, _, _ + 1, .nil => .nil
  | _, _, n + 1, .cons r t => .cons r (RepAll.take n t)
theorem RepAll.drop : ∀ {vs : List V} {ds : List D} (n : Nat), RepAll G F vs ds → RepAll G F (vs.drop n) (ds.drop n)
  | _, _, 0, r => r
  | _, _, _ + 1, .nil => .nil
  | _, _, n + 1, .cons _ t => RepAll.drop n t
theorem RepAll.reverse : ∀ {vs : List V} {ds : List D}, RepAll G F vs ds → RepAll G F vs.reverse ds.reverse
  | _, _, .nil => .nil
  | _, _, .cons r t => by
    rw [List.reverse_cons, List.reverse_cons]
    exact RepAll.append (RepAll.reverse t) (.cons r .nil)
end
inductive Shape where
  | sh
  | flat
  | parts (l : List Shape)
  | opts (l : List Shape)
/-- the shape of the i-th part -/
noncomputable def Shape.kid : Shape → Nat → Shape
  | .parts l, i => l.getD i .sh
  | .opts l, i => l.getD i .sh
  | _, _ => .sh
noncomputable def Shape.pts : Shape → Bool
  | .parts _ => true
  | .opts _ => true
  | _ => false
noncomputable def Shape.own : Shape → Bool
  | .sh => false
  | _ => true
mutual
/-- nothing that can be changed, at no depth -/
noncomputable def soft : D → Bool
  | .non => true
  | .bl _ => true
  | .int _ => true
  | .str _ => true
  | .tup ds => softs ds
  | _ => false
noncomputable def softs : List D → Bool
  | [] => true
  | d :: ds => soft d && softs ds
end
mutual
/-- v bears d, its own parts stand in H at A, the others in F -/
inductive Own (G : GC) (F H : Hp) : Shape → V → D → List Addr → Prop
  | sh {v : V} {d : D} : Rep G F v d → Own G F H .sh v d []
  | lst {s : Shape} {a : Addr} {vs : List V} {ds : List D} {A : List Addr} : s.own = true → H a = some (.lst vs) → F a = none → OwnAll G F H s.kid 0 vs ds A → a ∉ A → Own G F H s (.ref a) (.lst ds) (a :: A)
  | tup {s : Shape} {a : Addr} {vs : List V} {ds : List D} {A : List Addr} : s.pts = true → H a = some (.tup vs) → F a = none → OwnAll G F H s.kid 0 vs ds A → a ∉ A → Own G F H s (.ref a) (.tup ds) (a :: A)
  | dic {s : Shape} {a : Addr} {o : Obj} {xs : List (NestedKey × Addr × Value)} {ws : List V} {ks vs : List D} {A : List Addr} : s.own = true → H a = some (.ext (isObj' a o)) → F a = none → (a == sysModules) = false → DicO G o xs → Vals ws (xs.map (·.2.2)) →
      RepAll G F (xs.map fun x => V.ref x.2.1) ks → ks.map keyOf = xs.map (fun x => some x.1) → OwnAll G F H s.kid 0 ws vs A → a ∉ A → Own G F H s (.ref a) (.dic ks vs) (a :: A)
  | dct {s : Shape} {a : Addr} {kvs : List (Key × V)} {ks : List Key} {vs : List D} {A : List Addr} : s.own = true → H a = some (.dK kvs) → F a = none → ks = kvs.map (·.1) → OwnAll G F H s.kid 0 (kvs.map (·.2)) vs A → a ∉ A → Own G F H s (.ref a) (.dct ks vs) (a :: A)
  | mix {s : Shape} {a : Addr} {o : Obj} {xs : List (NestedKey × Addr × Value)} {ws : List V} {ks vs : List D} {k : Key} {u : Value} {w : V} {v : D} : s.own = true → H a = some (.ext (isObj' a o)) → F a = none → (a == sysModules) = false → MixO G o xs k u → Vals ws (xs.map (·.2.2)) →
      RepAll G F (xs.map fun x => V.ref x.2.1) ks → ks.map keyOf = xs.map (fun x => some x.1) → RepAll G F ws vs → RelV w u → Rep G F w v → Own G F H s (.ref a) (.mix ks vs k v) [a]
  | obj {s : Shape} {a dx : Addr} {c : Nat} {ws : List V} {vs : List D} {A : List Addr} : s.own = true → H a = some (.ins (G.ca c) dx ((cflds c).zip ws)) → F a = none → ws.length ≤ (cflds c).length → OwnAll G F H s.kid 0 ws vs A → a ∉ A →
      Own G F H s (.ref a) (.obj c vs) (a :: A)
  | opt {l : List Shape} {v : V} {ds : List D} : Rep G F v (.tup ds) → (∀ n d, ds[n]? = some d → ((Shape.opts l).kid n).own = true → soft d = true) → Own G F H (.opts l) v (.tup ds) []
inductive OwnAll (G : GC) (F H : Hp) : (Nat → Shape) → Nat → List V → List D → List Addr → Prop
  | nil {f : Nat → Shape} {n : Nat} : OwnAll G F H f n [] [] []
  | cons {f : Nat → Shape} {n : Nat} {v : V} {d : D} {vs : List V} {ds : List D} {A B : List Addr} : Own G F H (f n) v d A → OwnAll G F H f (n + 1) vs ds B → (∀ a ∈ A, a ∉ B) → OwnAll G F H f n (v :: vs) (d :: ds) (A ++ B)
end
/-- no code table -/
noncomputable def Nt (o : HO) : Prop := ∀ ps, o ≠ .tbl ps
/-- the name that the code objects of a table bear -/
class Tn where
  q : Addr → Str
  l : List Addr
variable [Tn]
/-- a code object of the name q -/
noncomputable def isCode (oc : Obj) (q : Str) : Prop := ∃ (vs : Array Value) (t : Tok), oc.data = .fields vs ∧ vs[1]? = some (.str q t)
noncomputable abbrev frzO (o : Obj) : HO := .frz o (.ext fun _ => True)
/-- the table of code objects at P: each one that it tells is shared and bears its name -/
noncomputable def TabF (F H : Hp) (P : Addr) : Prop :=
  F P = none ∧ ∃ ps : Array Value, H P = some (.tbl ps) ∧ TriplesOk ps.toList ∧ ∀ (pos : Pos) (cv : Value), codeAmong pos ps.toList = some cv → ∃ c oc, cv = .ref c ∧ F c = some (frzO oc) ∧ isCode oc (Tn.q P)
/-- all tables -/
noncomputable def Tt (F H : Hp) : Prop := ∀ P ∈ Tn.l, TabF F H P
/-- no address is free any more that was not -/
noncomputable def Fre (H H' : Hp) : Prop := ∀ a, H' a = none → H a = none
theorem _root_.L2.Same.fre {H H' : Hp} (s : Same H H') : Fre H H' := fun _ e => s.free e
theorem Fre.trans {H H1 H2 : Hp} (a : Fre H H1) (b : Fre H1 H2) : Fre H H2 := fun c e => a c (b c e)
/-- all but the tables of code objects stays; they grow -/
structure Stays (F H F' H' : Hp) : Prop where
  at' : ∀ a o, H a = some o → Nt o → H' a = some o
  tb : ∀ P ps, H P = some (.tbl ps) → ∃ ps', H' P = some (.tbl ps')
  tf : ∀ P, TabF F H P → TabF F' H' P
theorem Stays.tt {F H F' H' : Hp} (s : Stays F H F' H') (t : Tt F H) : Tt F' H' := fun P h => s.tf P (t P h)
section
variable {F H F' H' F1 H1 F2 H2 : Hp}
theorem Stays.at (s : Stays F H F' H') (a : Addr) (o : HO) (h : H a = some o) (n : Nt o := by intro _ z; cases z) : H' a = some o := s.at' a o h n
theorem Stays.fre (s : Stays F H F' H') : Fre H H' := fun a e => by
  cases q : H a with
  | none => rfl
  | some o =>
    by_cases h : ∃ ps, o = .tbl ps
    · obtain ⟨ps, rfl⟩ := h
      obtain ⟨ps', z⟩ := s.tb a ps q
      rw [e] at z; cases z
    · have := s.at' a o q fun ps z => h ⟨ps, z⟩
      rw [e] at this; cases this
theorem Stays.free (s : Stays F H F' H') {a : Addr} (e : H' a = none) : H a = none := s.fre a e
theorem Stays.of (h : Same H H') (f : Same F F') (n : ∀ a o, F' a = some o → F a = some o ∨ H a = none) : Stays F H F' H' where
  at' := fun a o e _ => h a o e
  tb := fun P ps e => ⟨ps, h P _ e⟩
  tf := fun P ⟨h0, ps, h1, h2, h3⟩ => by
    refine ⟨?_, ps, h P _ h1, h2, fun pos cv e => ?_⟩
    · cases e : F' P with
      | none => rfl
      | some o =>
        rcases n P o e with z | z
        · rw [h0] at z
          cases z
        · rw [h1] at z
          cases z
    · obtain ⟨c, oc, a, b, z⟩ := h3 pos cv e
      exact ⟨c, oc, a, f c _ b, z⟩
theorem Stays.refl : Stays F H F H := ⟨fun _ _ e _ => e, fun _ ps e => ⟨ps, e⟩, fun _ h => h⟩
theorem Stays.trans (a : Stays F H F1 H1) (b : Stays F1 H1 F2 H2) : Stays F H F2 H2 :=
  ⟨fun x o e n => b.at' x o (a.at' x o e n) n, fun P ps e => let ⟨ps1, e1⟩ := a.tb P ps e; b.tb P ps1 e1, fun P h => b.tf P (a.tf P h)⟩
/-- a new thing, or one's own, is written -/
theorem Stays.upd {x : Addr} {o : HO} (s : Stays F H F' H') (hx : H x = none) : Stays F H F' (upd H' x o) where
  at' := fun b u e n => by rw [upd_ne (ne_of_none e hx)]; exact s.at' b u e n
  tb := fun P ps e => by rw [upd_ne (ne_of_none e hx)]; exact s.tb P ps e
  tf := fun P h => by
    obtain ⟨_, _, e, _⟩ := id h
    obtain ⟨h0, ps, h1, h2⟩ := s.tf P h
    exact ⟨h0, ps, by rw [upd_ne (ne_of_none e hx)]; exact h1, h2⟩
end
/-- without the tables -/
noncomputable def nT (H : Hp) : Hp := fun a => match H a with
  | some (.tbl _) => none
  | o => o
theorem nT_at {H : Hp} {a : Addr} {o : HO} (h : H a = some o) (n : Nt o := by intro _ z; cases z) : nT H a = some o := by
  unfold nT
  rw [h]
  cases o <;> first | rfl | exact absurd rfl (n _)
theorem nT_of {H : Hp} {a : Addr} {o : HO} (h : nT H a = some o) : H a = some o ∧ Nt o := by
  unfold nT at h
  split at h
  · cases h
  · rename_i q
    exact ⟨h, fun ps z => by subst z; exact q ps h⟩
theorem Stays.nT {F H F' H' : Hp} (s : Stays F H F' H') : Same (Mir.nT H) H' := fun a o e => s.at' a o (nT_of e).1 (nT_of e).2
theorem rd_nT {H : Hp} {a : Addr} {o : HO} (n : Nt o) (h : Rd H a o) : Rd (nT H) a o := by
  rcases h with h | ⟨u, h⟩
  · exact .inl (nT_at h n)
  · exact .inr ⟨u, nT_at h⟩
theorem sqL_nT {K : PySem.W.Frag} {H : Hp} {a : Addr} {xs : List V} (h : SqL K H a xs) : SqL K (nT H) a xs := h.imp (rd_nT (by intro _ z; cases z)) id
/-- what grows: the heap, the shared part; nothing old becomes shared -/
structure Grow (F H F' H' : Hp) : Prop where
  h : Stays F H F' H'
  f : Same F F'
  sub : Same F' H'
  new : ∀ a o, F' a = some o → F a = some o ∨ H a = none
theorem Grow.of {F H F' H' : Hp} (h : Same H H') (f : Same F F') (sub : Same F' H') (new : ∀ a o, F' a = some o → F a = some o ∨ H a = none) : Grow F H F' H' := ⟨.of h f new, f, sub, new⟩
theorem Grow.refl {F H : Hp} (s : Same F H) : Grow F H F H := ⟨Stays.refl, Same.refl _, s, fun _ _ e => .inl e⟩
theorem Grow.trans {F H F1 H1 F2 H2 : Hp} (a : Grow F H F1 H1) (b : Grow F1 H1 F2 H2) : Grow F H F2 H2 :=
  ⟨a.h.trans b.h, a.f.trans b.f, b.sub, fun x o e => (b.new x o e).elim (fun q => a.new x o q) fun q => .inr (a.h.free q)⟩
/-- what stays of the own parts -/
structure Keep (A : List Addr) (F H F' H' : Hp) : Prop where
  h : ∀ a ∈ A, ∀ o, H a = some o → H' a = some o
  f : Same F F'
  n : ∀ a ∈ A, F a = none → F' a = none
theorem Grow.keep {F H F' H' : Hp} (g : Grow F H F' H') {A : List Addr} (hA : ∀ a ∈ A, ∃ o, H a = some o) (hn : ∀ a ∈ A, ∀ ps, H a ≠ some (.tbl ps)) : Keep A F H F' H' :=
  ⟨fun a ha o e => g.h.at' a o e fun ps z => hn a ha ps (z ▸ e), g.f, fun a ha e => by
    cases q : F' a with
    | none => rfl
    | some o =>
      rcases g.new a o q with z | z
      · rw [e] at z; cases z
      · obtain ⟨o', e'⟩ := hA a ha
        rw [z] at e'; cases e'⟩
section
variable {G : GC} {F H F' H' : Hp}
mutual
theorem Own.keep : ∀ {s : Shape} {v : V} {d : D} {A : List Addr}, Own G F H s v d A → Keep A F H F' H' → Own G F' H' s v d A
  | _, _, _, _, .sh r, k => .sh (r.mono k.f)
  | _, _, _, _, .lst h0 h1 h2 h3 h4, k => .lst h0 (k.h _ List.mem_cons_self _ h1) (k.n _ List.mem_cons_self h2) (OwnAll.keep h3 ⟨fun a ha => k.h a (List.mem_cons_of_mem _ ha), k.f, fun a ha => k.n a (List.mem_cons_of_mem _ ha)⟩) h4
  | _, _, _, _, .tup h0 h1 h2 h3 h4, k => .tup h0 (k.h _ List.mem_cons_self _ h1) (k.n _ List.mem_cons_self h2) (OwnAll.keep h3 ⟨fun a ha => k.h a (List.mem_cons_of_mem _ ha), k.f, fun a ha => k.n a (List.mem_cons_of_mem _ ha)⟩) h4
  | _, _, _, _, .dic h0 h1 h2 z1 z2 z3 z4 z5 h3 h4, k => .dic h0 (k.h _ List.mem_cons_self _ h1) (k.n _ List.mem_cons_self h2) z1 z2 z3 (z4.mono k.f) z5 (OwnAll.keep h3 ⟨fun a ha => k.h a (List.mem_cons_of_mem _ ha), k.f, fun a ha => k.n a (List.mem_cons_of_mem _ ha)⟩) h4
  | _, _, _, _, .dct h0 h1 h2 z h3 h4, k => .dct h0 (k.h _ List.mem_cons_self _ h1) (k.n _ List.mem_cons_self h2) z (OwnAll.keep h3 ⟨fun a ha => k.h a (List.mem_cons_of_mem _ ha), k.f, fun a ha => k.n a (List.mem_cons_of_mem _ ha)⟩) h4
  | _, _, _, _, .mix h0 h1 h2 z1 z2 z3 z4 z5 z6 z7 z8, k => .mix h0 (k.h _ List.mem_cons_self _ h1) (k.n _ List.mem_cons_self h2) z1 z2 z3 (z4.mono k.f) z5 (z6.mono k.f) z7 (z8.mono k.f)
  | _, _, _, _, .obj h0 h1 h2 z h3 h4, k => .obj h0 (k.h _ List.mem_cons_self _ h1) (k.n _ List.mem_cons_self h2) z (OwnAll.keep h3 ⟨fun a ha => k.h a (List.mem_cons_of_mem _ ha), k.f, fun a ha => k.n a (List.mem_cons_of_mem _ ha)⟩) h4
  | _, _, _, _, .opt r h, k => .opt (r.mono k.f) h
theorem OwnAll.keep : ∀ {f : Nat → Shape} {n : Nat} {vs : List V} {ds : List D} {A : List Addr}, OwnAll G F H f n vs ds A → Keep A F H F' H' → OwnAll G F' H' f n vs ds A
  | _, _, _, _, _, .nil, _ => .nil
  | _, _, _, _, _, .cons r t x, k => .cons (Own.keep r ⟨fun a ha => k.h a (List.mem_append_left _ ha), k.f, fun a ha => k.n a (List.mem_append_left _ ha)⟩)
      (OwnAll.keep t ⟨fun a ha => k.h a (List.mem_append_right _ ha), k.f, fun a ha => k.n a (List.mem_append_right _ ha)⟩) x
end
mutual
theorem Own.there : ∀ {s : Shape} {v : V} {d : D} {A : List Addr}, Own G F H s v d A → ∀ a ∈ A, F a = none ∧ ∃ o, H a = some o
  | _, _, _, _, .sh _, _, h => nomatch h
  | _, _, _, _, .lst _ h1 h2 h3 _, a, h => (List.mem_cons.mp h).elim (fun e => by subst e; exact ⟨h2, _, h1⟩) (OwnAll.there h3 a)
  | _, _, _, _, .tup _ h1 h2 h3 _, a, h => (List.mem_cons.mp h).elim (fun e => by subst e; exact ⟨h2, _, h1⟩) (OwnAll.there h3 a)
  | _, _, _, _, .dic _ h1 h2 _ _ _ _ _ h3 _, a, h => (List.mem_cons.mp h).elim (fun e => by subst e; exact ⟨h2, _, h1⟩) (OwnAll.there h3 a)
  | _, _, _, _, .dct _ h1 h2 _ h3 _, a, h => (List.mem_cons.mp h).elim (fun e => by subst e; exact ⟨h2, _, h1⟩) (OwnAll.there h3 a)
  | _, _, _, _, .mix _ h1 h2 .., a, h => by rw [List.mem_singleton.mp h]; exact ⟨h2, _, h1⟩
  | _, _, _, _, .obj _ h1 h2 _ h3 _, a, h => (List.mem_cons.mp h).elim (fun e => by subst e; exact ⟨h2, _, h1⟩) (OwnAll.there h3 a)
theorem OwnAll.there : ∀ {f : Nat → Shape} {n : Nat} {vs : List V} {ds : List D} {A : List Addr}, OwnAll G F H f n vs ds A → ∀ a ∈ A, F a = none ∧ ∃ o, H a = some o
  | _, _, _, _, _, .nil, _, h => nomatch h
  | _, _, _, _, _, .cons r t _, a, h => (List.mem_append.mp h).elim (Own.there r a) (OwnAll.there t a)
end
mutual
theorem Own.nt : ∀ {s : Shape} {v : V} {d : D} {A : List Addr}, Own G F H s v d A → ∀ a ∈ A, ∀ ps, H a ≠ some (.tbl ps)
  | _, _, _, _, .sh _, _, h => nomatch h
  | _, _, _, _, .lst _ h1 h2 h3 _, a, h => (List.mem_cons.mp h).elim (fun e ps z => by subst e; rw [h1] at z; cases z) (OwnAll.nt h3 a)
  | _, _, _, _, .tup _ h1 h2 h3 _, a, h => (List.mem_cons.mp h).elim (fun e ps z => by subst e; rw [h1] at z; cases z) (OwnAll.nt h3 a)
  | _, _, _, _, .dic _ h1 h2 _ _ _ _ _ h3 _, a, h => (List.mem_cons.mp h).elim (fun e ps z => by subst e; rw [h1] at z; cases z) (OwnAll.nt h3 a)
  | _, _, _, _, .dct _ h1 h2 _ h3 _, a, h => (List.mem_cons.mp h).elim (fun e ps z => by subst e; rw [h1] at z; cases z) (OwnAll.nt h3 a)
  | _, _, _, _, .mix _ h1 .., a, h => fun ps z => by rw [List.mem_singleton.mp h, h1] at z; cases z
  | _, _, _, _, .obj _ h1 h2 _ h3 _, a, h => (List.mem_cons.mp h).elim (fun e ps z => by subst e; rw [h1] at z; cases z) (OwnAll.nt h3 a)
theorem OwnAll.nt : ∀ {f : Nat → Shape} {n : Nat} {vs : List V} {ds : List D} {A : List Addr}, OwnAll G F H f n vs ds A → ∀ a ∈ A, ∀ ps, H a ≠ some (.tbl ps)
  | _, _, _, _, _, .nil, _, h => nomatch h
  | _, _, _, _, _, .cons r t _, a, h => (List.mem_append.mp h).elim (Own.nt r a) (OwnAll.nt t a)
end
theorem Own.grow {s : Shape} {v : V} {d : D} {A : List Addr} (o : Own G F H s v d A) (g : Grow F H F' H') : Own G F' H' s v d A := o.keep (g.keep (fun a ha => (o.there a ha).2) o.nt)
/-- the own parts become shared -/
noncomputable def share (F H : Hp) (A : List Addr) : Hp := fun b => if b ∈ A then H b else F b
theorem share_sub (s : Same F H) (A : List Addr) : Same (share F H A) H := fun b o e => by
  unfold share at e
  split at e
  · exact e
  · exact s b o e
theorem share_same (s : Same F H) (A : List Addr) : Same F (share F H A) := fun b o e => by
  unfold share
  split
  · exact s b o e
  · exact e
/-- .. and nothing else changes -/
theorem Stays.share {A : List Addr} (st : Stays F H F' H') (sub : Same F' H') (hn : ∀ a ∈ A, ∀ ps, H' a ≠ some (.tbl ps)) : Stays F H (share F' H' A) H' := ⟨st.at', st.tb, fun P h => by
  obtain ⟨h0, ps, h1, h2, h3⟩ := st.tf P h
  have hP : P ∉ A := fun z => hn P z ps h1
  refine ⟨by unfold Mir.share; rw [if_neg hP]; exact h0, ps, h1, h2, fun pos cv e => ?_⟩
  obtain ⟨c, oc, a, b, z⟩ := h3 pos cv e
  exact ⟨c, oc, a, share_same sub A c _ b, z⟩⟩
theorem share_at {A : List Addr} {a : Addr} (h : a ∈ A) : share F H A a = H a := if_pos h
theorem share_ne {A : List Addr} {a : Addr} (h : a ∉ A) : share F H A a = F a := if_neg h
mutual
theorem Own.rep (s : Same F H) : ∀ {sp : Shape} {v : V} {d : D} {A : List Addr}, Own G F H sp v d A → ∀ B : List Addr, (∀ a ∈ A, a ∈ B) → Rep G (share F H B) v d
  | _, _, _, _, .sh r, B, _ => r.mono (share_same s B)
  | _, _, _, _, .lst _ h1 _ h3 _, B, hB => .lst ((share_at (hB _ List.mem_cons_self)).trans h1) (OwnAll.rep s h3 B fun a ha => hB a (List.mem_cons_of_mem _ ha))
  | _, _, _, _, .tup _ h1 _ h3 _, B, hB => .tup (.of ((share_at (hB _ List.mem_cons_self)).trans h1)) (OwnAll.rep s h3 B fun a ha => hB a (List.mem_cons_of_mem _ ha))
  | _, _, _, _, .dic _ h1 _ z1 z2 z3 z4 z5 h3 _, B, hB => .dic ((share_at (hB _ List.mem_cons_self)).trans h1) z1 z2 z3 (z4.mono (share_same s B)) z5 (OwnAll.rep s h3 B fun a ha => hB a (List.mem_cons_of_mem _ ha))
  | _, _, _, _, .dct _ h1 _ z h3 _, B, hB => .dct ((share_at (hB _ List.mem_cons_self)).trans h1) z (OwnAll.rep s h3 B fun a ha => hB a (List.mem_cons_of_mem _ ha))
  | _, _, _, _, .mix _ h1 _ z1 z2 z3 z4 z5 z6 z7 z8, B, hB => .mix ((share_at (hB _ List.mem_cons_self)).trans h1) z1 z2 z3 (z4.mono (share_same s B)) z5 (z6.mono (share_same s B)) z7 (z8.mono (share_same s B))
  | _, _, _, _, .obj _ h1 _ z h3 _, B, hB => .obj ((share_at (hB _ List.mem_cons_self)).trans h1) z (OwnAll.rep s h3 B fun a ha => hB a (List.mem_cons_of_mem _ ha))
  | _, _, _, _, .opt r _, B, _ => r.mono (share_same s B)
theorem OwnAll.rep (s : Same F H) : ∀ {f : Nat → Shape} {n : Nat} {vs : List V} {ds : List D} {A : List Addr}, OwnAll G F H f n vs ds A → ∀ B : List Addr, (∀ a ∈ A, a ∈ B) → RepAll G (share F H B) vs ds
  | _, _, _, _, _, .nil, _, _ => .nil
  | _, _, _, _, _, .cons r t _, B, hB => .cons (Own.rep s r B fun a ha => hB a (List.mem_append_left _ ha)) (OwnAll.rep s t B fun a ha => hB a (List.mem_append_right _ ha))
end
theorem OwnAll.of_rep : ∀ {vs : List V} {ds : List D} {n : Nat}, RepAll G F vs ds → OwnAll G F H (fun _ => .sh) n vs ds []
  | _, _, _, .nil => .nil
  | _, _, _, .cons r t => OwnAll.cons (A := []) (B := []) (.sh r) (OwnAll.of_rep t) (fun _ z => nomatch z)
theorem OwnAll.to_rep : ∀ {vs : List V} {ds : List D} {n : Nat} {A : List Addr}, OwnAll G F H (fun _ => .sh) n vs ds A → A = [] ∧ RepAll G F vs ds
  | _, _, _, _, .nil => ⟨rfl, .nil⟩
  | _, _, _, _, .cons r t _ => by
    cases r with
    | sh r =>
      obtain ⟨e, t'⟩ := OwnAll.to_rep t
      subst e
      exact ⟨rfl, .cons r t'⟩
    | lst h => cases h
    | tup h => cases h
    | dic h => cases h
    | dct h => cases h
    | mix h => cases h
    | obj h => cases h
end
end Mir
namespace Mir
open PySem PySem.Spec PyProof.Rows L2
variable [Tn]
inductive Slot where
  | un | sh (d : D) | ow (s : Shape) (d : D)
noncomputable abbrev Env := List Slot
/-- to be read: shared, or one's own with shared parts -/
noncomputable def RdD (G : GC) (F H : Hp) (v : V) (d : D) : Prop := Rep G F v d ∨ ∃ A, Own G F H .flat v d A
noncomputable def getS (i : Nat) (r : Env) : Res D := match r[i]? with
  | some (.sh d) => .ok d
  | _ => .bad
noncomputable def getR (i : Nat) (r : Env) : Res D := match r[i]? with
  | some (.sh d) => .ok d
  | some (.ow .flat d) => .ok d
  | _ => .bad
noncomputable def freeze (i : Nat) (r : Env) : Env := match r[i]? with
  | some (.ow _ d) => r.set i (.sh d)
  | _ => r
/-- what is wished of an exception; what stays true of the names' values -/
structure Wi where
  w : WX
  J : L2.St → Prop
/-- the state of a def: slots, heap; fp i: the addresses that the i-th name owns -/
structure MS (G : GC) (J : L2.St → Prop) (H0 F0 : Hp) (fp : Nat → List Addr) (F : Hp) (σ : L2.St) (H : Hp) (r : Env) : Prop where
  jo : J σ
  s0 : Stays F0 H0 F H
  f0 : Same F0 F
  sub : Same F H
  new : ∀ a o, F a = some o → F0 a = some o ∨ H0 a = none
  len : r.length = σ.length
  sh : ∀ (i : Nat) (d : D), r[i]? = some (.sh d) → ∃ v, σ[i]? = some (some v) ∧ Rep G F v d
  ow : ∀ (i : Nat) (s : Shape) (d : D), r[i]? = some (.ow s d) → (∃ v, σ[i]? = some (some v) ∧ Own G F H s v d (fp i)) ∧ ∀ a ∈ fp i, H0 a = none
  ap : ∀ (i j : Nat) (s t : Shape) (d e : D), i ≠ j → r[i]? = some (.ow s d) → r[j]? = some (.ow t e) → ∀ a ∈ fp i, a ∉ fp j
  t0 : Tt F0 H0
section
variable {G : GC} {J : L2.St → Prop} {H0 F0 F H F' H' : Hp} {fp : Nat → List Addr} {σ : L2.St} {r : Env}
theorem MS.grow (m : MS G J H0 F0 fp F σ H r) (g : Grow F H F' H') : MS G J H0 F0 fp F' σ H' r where
  jo := m.jo
  s0 := m.s0.trans g.h
  f0 := m.f0.trans g.f
  sub := g.sub
  new := fun a o e => (g.new a o e).elim (m.new a o) fun q => .inr (m.s0.free q)
  len := m.len
  sh := fun i d e => let ⟨v, h1, h2⟩ := m.sh i d e; ⟨v, h1, h2.mono g.f⟩
  ow := fun i s d e => let ⟨⟨v, h1, h2⟩, h3⟩ := m.ow i s d e; ⟨⟨v, h1, h2.grow g⟩, h3⟩
  ap := m.ap
  t0 := m.t0
theorem MS.tt (m : MS G J H0 F0 fp F σ H r) : Tt F H := m.s0.tt m.t0
theorem MS.getS (m : MS G J H0 F0 fp F σ H r) {i : Nat} {d : D} (h : getS i r = .ok d) : ∃ v, σ[i]? = some (some v) ∧ Rep G F v d := by
  unfold Mir.getS at h
  split at h
  · rename_i e; cases h; exact m.sh i _ e
  · cases h
theorem getS_not_er {i : Nat} {e : D} {r : Env} (h : Mir.getS i r = .er e) : False := by
  unfold Mir.getS at h
  split at h <;> cases h
theorem get_set_slot {r : Env} {i j : Nat} {x y : Slot} (h : (r.set i x)[j]? = some y) : (i = j ∧ x = y ∧ i < r.length) ∨ (i ≠ j ∧ r[j]? = some y) := by
  by_cases e : i = j
  · subst e
    by_cases hl : i < r.length
    · rw [List.getElem?_set_self hl] at h
      exact .inl ⟨rfl, Option.some.inj h, hl⟩
    · rw [List.getElem?_eq_none (by simpa using hl)] at h
      cases h
  · rw [List.getElem?_set_ne e] at h
    exact .inr ⟨e, h⟩
/-- a shared value is put into the i-th name -/
theorem MS.setS (m : MS G J H0 F0 fp F σ H r) {v : V} {d : D} (i : Nat) (q : Rep G F v d) (hJ : ∀ σ v, J σ → J (σ.set i v)) : MS G J H0 F0 fp F (σ.set i (some v)) H (r.set i (.sh d)) where
  jo := hJ _ _ m.jo
  s0 := m.s0
  f0 := m.f0
  sub := m.sub
  new := m.new
  len := by simpa using m.len
  sh := fun j e h => by
    rcases get_set_slot h with ⟨rfl, x, hl⟩ | ⟨ne, h⟩
    · cases x
      exact ⟨v, List.getElem?_set_self (by rw [← m.len]; exact hl), q⟩
    · rw [List.getElem?_set_ne ne]
      exact m.sh j e h
  ow := fun j s e h => by
    rcases get_set_slot h with ⟨_, x, _⟩ | ⟨ne, h⟩
    · cases x
    · rw [List.getElem?_set_ne ne]
      exact m.ow j s e h
  ap := fun j k s t d e n h1 h2 => by
    rcases get_set_slot h1 with ⟨_, x, _⟩ | ⟨_, h1⟩
    · cases x
    · rcases get_set_slot h2 with ⟨_, x, _⟩ | ⟨_, h2⟩
      · cases x
      · exact m.ap j k s t d e n h1 h2
  t0 := m.t0
/-- an owned value is put into the i-th name -/
theorem MS.setO (m : MS G J H0 F0 fp F σ H r) {v : V} {d : D} {s : Shape} {A : List Addr} (i : Nat) (q : Own G F H s v d A) (hn : ∀ a ∈ A, H0 a = none) (hd : ∀ (j : Nat) (t : Shape) (e : D), j ≠ i → r[j]? = some (.ow t e) → ∀ a ∈ A, a ∉ fp j) (hJ : ∀ σ v, J σ → J (σ.set i v)) :
    MS G J H0 F0 (fun j => if j = i then A else fp j) F (σ.set i (some v)) H (r.set i (.ow s d)) where
  jo := hJ _ _ m.jo
  s0 := m.s0
  f0 := m.f0
  sub := m.sub
  new := m.new
  len := by simpa using m.len
  sh := fun j e h => by
    rcases get_set_slot h with ⟨_, x, _⟩ | ⟨ne, h⟩
    · cases x
    · rw [List.getElem?_set_ne ne]
      exact m.sh j e h
  ow := fun j s e h => by
    rcases get_set_slot h with ⟨rfl, x, hl⟩ | ⟨ne, h⟩
    · cases x
      rw [if_pos rfl]
      exact ⟨⟨v, List.getElem?_set_self (by rw [← m.len]; exact hl), q⟩, hn⟩
    · rw [List.getElem?_set_ne ne, if_neg (Ne.symm ne)]
      exact m.ow j s e h
  ap := fun j k s t d e n h1 h2 a => by
    rcases get_set_slot h1 with ⟨rfl, x, _⟩ | ⟨n1, h1⟩
    · rcases get_set_slot h2 with ⟨z, _, _⟩ | ⟨n2, h2⟩
      · exact absurd z n
      · cases x
        rw [if_pos rfl, if_neg (Ne.symm n2)]
        exact hd k t e (Ne.symm n2) h2 a
    · rcases get_set_slot h2 with ⟨rfl, x, _⟩ | ⟨n2, h2⟩
      · cases x
        rw [if_pos rfl, if_neg (Ne.symm n1)]
        exact fun ha hb => hd j s d (Ne.symm n1) h1 a hb ha
      · rw [if_neg (Ne.symm n1), if_neg (Ne.symm n2)]
        exact m.ap j k s t d e n h1 h2 a
  t0 := m.t0
/-- the i-th name's own parts become shared -/
theorem MS.freeze (m : MS G J H0 F0 fp F σ H r) (i : Nat) : ∃ F', Same F F' ∧ MS G J H0 F0 fp F' σ H (Mir.freeze i r) := by
  unfold Mir.freeze
  split
  · rename_i s d e
    obtain ⟨⟨v, h1, h2⟩, h3⟩ := m.ow i s d e
    refine ⟨share F H (fp i), share_same m.sub _, ?_⟩
    have hi : i < r.length := (List.getElem?_eq_some_iff.mp e).1
    refine ⟨m.jo, m.s0.share m.sub h2.nt, m.f0.trans (share_same m.sub _), share_sub m.sub _, fun a o q => ?_, by simpa using m.len, fun j e' h => ?_, fun j t e' h => ?_, fun j k t u d' e' n q1 q2 => ?_, m.t0⟩
    · by_cases ha : a ∈ fp i
      · exact .inr (h3 a ha)
      · rw [share_ne ha] at q
        exact m.new a o q
    · rcases get_set_slot h with ⟨rfl, x, hl⟩ | ⟨ne, h⟩
      · cases x
        exact ⟨v, h1, h2.rep m.sub _ fun _ z => z⟩
      · obtain ⟨w, q1, q2⟩ := m.sh j e' h
        exact ⟨w, q1, q2.mono (share_same m.sub _)⟩
    · rcases get_set_slot h with ⟨_, x, _⟩ | ⟨ne, h⟩
      · cases x
      · obtain ⟨⟨w, q1, q2⟩, q3⟩ := m.ow j t e' h
        refine ⟨⟨w, q1, q2.keep ⟨fun _ _ _ z => z, share_same m.sub _, fun a ha z => ?_⟩⟩, q3⟩
        rw [share_ne (m.ap j i t s e' d (Ne.symm ne) h e a ha)]
        exact z
    · rcases get_set_slot q1 with ⟨_, x, _⟩ | ⟨_, q1⟩
      · cases x
      · rcases get_set_slot q2 with ⟨_, x, _⟩ | ⟨_, q2⟩
        · cases x
        · exact m.ap j k t u d' e' n q1 q2
  · exact ⟨F, Same.refl _, m⟩
end
inductive Kd where
  | S | R
  | O (s : Shape)
  | X (p : Addr) (s : Shape)
/-- what may be read -/
noncomputable def Kd.rd : Kd → Bool
  | .O (.parts _) => false
  | .O (.opts _) => false
  | .X _ _ => false
  | _ => true
/-- v bears d: shared; to be read; one's own and new since H -/
noncomputable def Kd.Rep (G : GC) (H F' H' : Hp) (v : V) (d : D) : Kd → Prop
  | .S => Mir.Rep G F' v d
  | .R => RdD G F' H' v d
  | .O s => ∃ A, Own G F' H' s v d A ∧ ∀ a ∈ A, H a = none
  | .X p s => ∃ d1 d2 A, d = .tup [d1, d2] ∧ Mir.Rep G F' v d1 ∧ Own G F' H' s (.ref p) d2 A ∧ ∀ a ∈ A, H a = none
/-- an exception in the air is the datum e -/
noncomputable def ExcIs (G : GC) (F : Hp) (cls : Value) (dd : Option Addr) (e : D) : Prop :=
  ∃ (c : Nat) (ws : List V) (vs : List D), e = .exc c vs ∧ cls = .ref (G.ca c) ∧ RepAll G F ws vs ∧
    ((dd = none ∧ cflds c = [] ∧ ws = []) ∨ ∃ dx, dd = some dx ∧ F dx = some (.xd ((cflds c).zip ws)) ∧ ws.length = (cflds c).length)
/-- what is due of an answer: behind it P; of an exception: the wish -/
noncomputable def Out (G : GC) (W : Wi) (σ : L2.St) {α : Type} (F H : Hp) (P : Hp → Hp → α → Prop) : Res α → Prop
  | .ok a => ∀ F' H', Grow F H F' H' → P F' H' a
  | .er e => ∀ cls dd F' H', Grow F H F' H' → ExcIs G F' cls dd e → W.w cls dd σ H'
  | .bad => False
/-- the reading of an expression of worth f -/
noncomputable def tE (G : GC) (W : Wi) (k : Kd) (f : Env → Res D) : TE := fun σ H Q => ∃ H0 F0 fp F r, MS G W.J H0 F0 fp F σ H r ∧ Out G W σ F H (fun F' H' d => ∀ v, k.Rep G H F' H' v d → Q v H') (f r)
noncomputable def tT (G : GC) (W : Wi) (f : Env → Res Bool) : TT := fun σ H Q => ∃ H0 F0 fp F r, MS G W.J H0 F0 fp F σ H r ∧ Out G W σ F H (fun F' H' b => Q b H') (f r)
noncomputable def tA (G : GC) (W : Wi) (f : Env → Res (List D)) : TA := fun σ H Q => ∃ H0 F0 fp F r, MS G W.J H0 F0 fp F σ H r ∧ Out G W σ F H (fun F' H' ds => ∀ vs, RepAll G F' vs ds → Q vs H') (f r)
noncomputable abbrev RE (X : Cx) (W : Wi) (k : Kd) (e : Expr) (f : Env → Res D) : Prop := PE X e (tE (gOf X) W k f)
noncomputable abbrev RT (X : Cx) (W : Wi) (e : Expr) (f : Env → Res Bool) : Prop := PT X e (tT (gOf X) W f)
noncomputable abbrev RA (X : Cx) (W : Wi) (es : List Expr) (f : Env → Res (List D)) : Prop := PA X es (tA (gOf X) W f)
theorem _root_.L2.PE.imp {X : Cx} {e : Expr} {t t' : TE} (h : PE X e t) (i : ∀ σ H Q, t' σ H Q → t σ H Q) : PE X e t' := ⟨fun pins s σ H Q I hw => h.run pins s σ H Q I (i σ H Q hw)⟩
theorem _root_.L2.PT.imp {X : Cx} {e : Expr} {t t' : TT} (h : PT X e t) (i : ∀ σ H Q, t' σ H Q → t σ H Q) : PT X e t' := ⟨fun pins s σ H Q I hw => h.run pins s σ H Q I (i σ H Q hw)⟩
theorem _root_.L2.PW.imp {X : Cx} {e : Expr} {t t' : TT} (h : PW X e t) (i : ∀ σ H Q, t' σ H Q → t σ H Q) : PW X e t' := ⟨fun wh pins s σ H Q I hw => h.run wh pins s σ H Q I (i σ H Q hw)⟩
theorem _root_.L2.PA.imp {X : Cx} {e : List Expr} {t t' : TA} (h : PA X e t) (i : ∀ σ H Q, t' σ H Q → t σ H Q) : PA X e t' := ⟨fun pos pins s σ H Q I hw => h.run pos pins s σ H Q I (i σ H Q hw)⟩
theorem _root_.L2.PS.imp {X : Cx} {e : Stmt} {t t' : TS} (h : PS X e t) (i : ∀ D σ H, t' D σ H → t D σ H) : PS X e t' := ⟨fun pins s σ H D I hw => h.run pins s σ H D I (i D σ H hw)⟩
theorem _root_.L2.PSs.imp {X : Cx} {e : List Stmt} {t t' : TS} (h : PSs X e t) (i : ∀ D σ H, t' D σ H → t D σ H) : PSs X e t' := ⟨fun pins s σ H D I hw => h.run pins s σ H D I (i D σ H hw)⟩
section
variable {G : GC} {J : L2.St → Prop} {W : Wi} {k : Kd} {σ : L2.St} {H F H1 F1 : Hp} {H0 F0 : Hp} {fp : Nat → List Addr} {r : Env} {α β : Type}
theorem Kd.R_of {k : Kd} {H F' H' : Hp} {v : V} {d : D} (hk : k.rd = true) (h : k.Rep G H F' H' v d) : Kd.R.Rep G H F' H' v d := by
  cases k with
  | S => exact Or.inl h
  | R => exact h
  | O s =>
    obtain ⟨A, ow, _⟩ := h
    cases s with
    | sh =>
      cases ow with
      | sh r => exact Or.inl r
      | lst h => cases h
      | tup h => cases h
      | dic h => cases h
      | dct h => cases h
      | mix h => cases h
      | obj h => cases h
    | flat => exact Or.inr ⟨A, ow⟩
    | parts l => cases hk
    | opts l => cases hk
  | X p s => cases hk
theorem Kd.Rep.later (s : Fre H H1) : ∀ {k : Kd} {F' H' : Hp} {v : V} {d : D}, k.Rep G H1 F' H' v d → k.Rep G H F' H' v d
  | .S, _, _, _, _, h => h
  | .R, _, _, _, _, h => h
  | .O _, _, _, _, _, ⟨A, h, n⟩ => ⟨A, h, fun a ha => s a (n a ha)⟩
  | .X _ _, _, _, _, _, ⟨d1, d2, A, e, q, h, n⟩ => ⟨d1, d2, A, e, q, h, fun a ha => s a (n a ha)⟩
/-- it stays while the heap grows -/
theorem Kd.Rep.grow {H F1 H1 F2 H2 : Hp} (g : Grow F1 H1 F2 H2) : ∀ {k : Kd} {v : V} {d : D}, k.Rep G H F1 H1 v d → k.Rep G H F2 H2 v d
  | .S, _, _, h => Mir.Rep.mono g.f h
  | .R, _, _, .inl h => .inl (Mir.Rep.mono g.f h)
  | .R, _, _, .inr ⟨A, h⟩ => .inr ⟨A, h.grow g⟩
  | .O _, _, _, ⟨A, h, n⟩ => ⟨A, h.grow g, n⟩
  | .X _ _, _, _, ⟨d1, d2, A, e, q, h, n⟩ => ⟨d1, d2, A, e, Mir.Rep.mono g.f q, h.grow g, n⟩
theorem Out.grow {P : Hp → Hp → α → Prop} {x : Res α} (h : Out G W σ F H P x) (g : Grow F H F1 H1) : Out G W σ F1 H1 P x := by
  cases x with
  | ok a => exact fun F' H' q => h F' H' (g.trans q)
  | er e => exact fun cls dd F' H' q => h cls dd F' H' (g.trans q)
  | bad => exact h
theorem Out.imp {P P' : Hp → Hp → α → Prop} {x : Res α} (h : Out G W σ F H P x) (i : ∀ F' H' a, Grow F H F' H' → P F' H' a → P' F' H' a) : Out G W σ F H P' x := by
  cases x with
  | ok a => exact fun F' H' q => i F' H' a q (h F' H' q)
  | er e => exact h
  | bad => exact h
/-- behind the first of two -/
theorem Out.bind {P : Hp → Hp → β → Prop} {P1 : Hp → Hp → α → Prop} {x : Res α} {g : α → Res β} (h : Out G W σ F H P (x >>= g)) (i : ∀ F' H' a, Grow F H F' H' → Out G W σ F' H' P (g a) → P1 F' H' a) : Out G W σ F H P1 x := by
  cases x with
  | ok a => exact fun F' H' q => i F' H' a q (Out.grow h q)
  | er e => exact h
  | bad => exact h
theorem Out.val {P : Hp → Hp → α → Prop} {x : Res α} {a : α} (h : Out G W σ F H P x) (e : x = .ok a) (s : Same F H) : P F H a := by
  subst e
  exact h F H (Grow.refl s)
end
section
variable {X : Cx} {W : Wi}
theorem re_var (i : Nat) {x : Str} {pos : Pos} (hN : X.N[i]? = some x := by rfl) (hv : Vis X.env.scope x := by first | exact Or.inl rfl | exact Or.inr (Or.inl rfl) | exact Or.inr (Or.inr rfl)) (hd : (x == ("__debug__" : Str)) = false := by decide)
    (hcd : (x == ("__classdict__" : Str)) = false := by decide) : RE X W .S (.Name x pos) (getS i) := by
  refine (pe_var hN hv hd hcd).imp fun σ H Q ⟨H0, F0, fp, F, r, m, o⟩ => ?_
  cases e : getS i r with
  | ok d =>
    obtain ⟨v, h1, h2⟩ := m.getS e
    exact ⟨v, h1, o.val e m.sub v h2⟩
  | er x => exact (getS_not_er e).elim
  | bad => rw [e] at o; exact o.elim
theorem re_cst {e : Expr} {v : V} {d : D} (h : PE X e (tC v)) (r : ∀ F, Rep (gOf X) F v d) : RE X W .S e (fun _ => .ok d) :=
  h.imp fun σ H Q ⟨H0, F0, fp, F, _, m, o⟩ => o F H (Grow.refl m.sub) v (r F)
theorem re_int {i j pos} : RE X W .S (.Constant (.int i) j pos) (fun _ => .ok (.int i)) := re_cst pe_int fun _ => .int i
theorem re_bl {b j pos} : RE X W .S (.Constant (.bool b) j pos) (fun _ => .ok (.bl b)) := re_cst pe_bl fun _ => .bl b
theorem re_non {j pos} : RE X W .S (.Constant .none j pos) (fun _ => .ok .non) := re_cst pe_non fun _ => .non
theorem re_str {x j pos} : RE X W .S (.Constant (.str x) j pos) (fun _ => .ok (.str x)) := re_cst pe_str fun _ => .str x
/-- a shared value, one's own: to be read -/
theorem re_rd {k : Kd} {e : Expr} {f : Env → Res D} (h : RE X W k e f) (hk : k.rd = true := by rfl) : RE X W .R e f :=
  h.imp fun σ H Q ⟨H0, F0, fp, F, r, m, o⟩ => ⟨H0, F0, fp, F, r, m, o.imp fun F' H' d _ p v kr => p v (Kd.R_of hk kr)⟩
/-- one's own is shared -/
theorem re_share {s : Shape} {e : Expr} {f : Env → Res D} (h : RE X W (.O s) e f) : RE X W .S e f :=
  h.imp fun σ H Q ⟨H0, F0, fp, F, r, m, o⟩ => ⟨H0, F0, fp, F, r, m, by
    cases e : f r with
    | ok d =>
      rw [e] at o
      intro F' H' g v ⟨A, ow, n⟩
      refine o (share F' H' A) H' ⟨g.h.share g.sub ow.nt, g.f.trans (share_same g.sub A), share_sub g.sub A, fun a u q => ?_⟩ v (ow.rep g.sub A fun _ z => z)
      by_cases ha : a ∈ A
      · exact .inr (n a ha)
      · rw [share_ne ha] at q
        exact g.new a u q
    | er x => rw [e] at o; exact o
    | bad => rw [e] at o; exact o⟩
theorem ra_nil : RA X W [] (fun _ => .ok []) := pa_nil.imp fun σ H Q ⟨H0, F0, fp, F, r, m, o⟩ => o F H (Grow.refl m.sub) [] .nil
theorem ra_cons {e : Expr} {es : List Expr} {f : Env → Res D} {g : Env → Res (List D)} (he : RE X W .S e f) (hr : RA X W es g) (hs : starEach (e :: es) X.env = (false, eval e X.env) :: starEach es X.env := by rfl) :
    RA X W (e :: es) (fun r => f r >>= fun d => g r >>= fun ds => .ok (d :: ds)) :=
  (pa_cons he hr hs).imp fun σ H Q ⟨H0, F0, fp, F, r, m, o⟩ => ⟨H0, F0, fp, F, r, m, o.bind fun F1 H1 d g1 o1 v kv =>
    ⟨H0, F0, fp, F1, r, m.grow g1, o1.bind fun F2 H2 ds g2 o2 vs rv => o2 F2 H2 (Grow.refl g2.sub) (v :: vs) (.cons (Mir.Rep.mono g2.f kv) rv)⟩⟩
end
/-- what an operation by values is worth -/
noncomputable def OpD (G : GC) (rr : R2) (k1 k2 k : Kd) (op : D → D → Res D) : Prop := ∀ (F H : Hp) (x y : V) (a b d : D) (Q : VK) (Ha Hb : Hp), Same F H → k1.Rep G Ha F H x a → k2.Rep G Hb F H y b → op a b = .ok d → (∀ v F' H', Grow F H F' H' → k.Rep G H F' H' v d → Q v H') → rr x y H Q
noncomputable def NoEr2 (op : D → D → Res D) : Prop := ∀ a b e, op a b ≠ .er e
section
variable {X : Cx} {W : Wi} {k1 k2 k : Kd} {a b : Expr} {fa fb : Env → Res D} {pos : Pos} {op : D → D → Res D}
theorem t_op {rr : R2} (h : OpD (gOf X) rr k1 k2 k op) (ne : NoEr2 op) (σ : L2.St) (H : Hp) (Q : VK)
    (t : tE (gOf X) W k (fun r => fa r >>= fun x => fb r >>= fun y => op x y) σ H Q) : tOp rr (tE (gOf X) W k1 fa) (tE (gOf X) W k2 fb) σ H Q := by
  obtain ⟨H0, F0, fp, F, r, m, o⟩ := t
  refine ⟨H0, F0, fp, F, r, m, o.bind fun F1 H1 d g1 o1 v kv => ⟨H0, F0, fp, F1, r, m.grow g1, o1.bind fun F2 H2 e g2 o2 u ku => ?_⟩⟩
  cases z : op d e with
  | ok w =>
    rw [z] at o2
    exact h F2 H2 v u d e w Q _ _ g2.sub (kv.grow g2) ku z fun v' F' H' g kr => o2 F' H' g v' (kr.later (g1.h.trans g2.h).fre)
  | er x => exact (ne _ _ _ z).elim
  | bad => rw [z] at o2; exact o2.elim
theorem re_op {o : Operator} {rr : R2} (ho : OpR X (binaryOp o) rr) (h : OpD (gOf X) rr k1 k2 k op) (ne : NoEr2 op) (ha : RE X W k1 a fa) (hb : RE X W k2 b fb) :
    RE X W k (.BinOp a o b pos) (fun r => fa r >>= fun x => fb r >>= fun y => op x y) := (pe_op ho ha hb).imp (t_op h ne)
theorem re_cmp {o : CmpOp} {rr : R2} (ho : OpR X (compareOp o) rr) (h : OpD (gOf X) rr k1 k2 k op) (ne : NoEr2 op) (ha : RE X W k1 a fa) (hb : RE X W k2 b fb) (hm : behindInMarks o b = false) :
    RE X W k (.Compare a [o] [b] pos) (fun r => fa r >>= fun x => fb r >>= fun y => op x y) := (pe_cmpR ho ha hb hm).imp (t_op h ne)
end
end Mir
namespace Mir
open PySem PySem.Spec PyProof.Rows L2
variable [Tn]
/-- how a block ends -/
inductive Oc where
  | nx (r : Env) | rt (d : D) | bk (r : Env) | ct (r : Env) | er (e : D) (r : Env) | bad
noncomputable def Oc.seq (o : Oc) (g : Env → Oc) : Oc := match o with
  | .nx r => g r
  | o => o
@[simp] theorem nx_seq (r : Env) (g : Env → Oc) : (Oc.nx r).seq g = g r := rfl
@[simp] theorem rt_seq (d : D) (g : Env → Oc) : (Oc.rt d).seq g = .rt d := rfl
@[simp] theorem bk_seq (r : Env) (g : Env → Oc) : (Oc.bk r).seq g = .bk r := rfl
@[simp] theorem ct_seq (r : Env) (g : Env → Oc) : (Oc.ct r).seq g = .ct r := rfl
@[simp] theorem er_seq (e : D) (r : Env) (g : Env → Oc) : (Oc.er e r).seq g = .er e r := rfl
@[simp] theorem bad_seq (g : Env → Oc) : Oc.bad.seq g = .bad := rfl
/-- an expression ahead of the rest -/
noncomputable def lift {α : Type} (x : Res α) (r : Env) (g : α → Oc) : Oc := match x with
  | .ok a => g a
  | .er e => .er e r
  | .bad => .bad
@[simp] theorem lift_ok {α : Type} (a : α) (r : Env) (g : α → Oc) : lift (.ok a) r g = g a := rfl
@[simp] theorem lift_er {α : Type} (e : D) (r : Env) (g : α → Oc) : lift (.er e : Res α) r g = .er e r := rfl
@[simp] theorem lift_bad {α : Type} (r : Env) (g : α → Oc) : lift (.bad : Res α) r g = .bad := rfl
/-- the names behind a target -/
noncomputable def into (x : Res Env) : Oc := match x with
  | .ok r => .nx r
  | _ => .bad
@[simp] theorem into_ok (r : Env) : into (.ok r) = .nx r := rfl
/-- what is due behind a statement -/
noncomputable def OutS (G : GC) (W : Wi) (k : Kd) (H0 F0 F : Hp) (D : Ends) : Oc → Prop
  | .nx r => ∀ fp F' σ' H', Same F F' → MS G W.J H0 F0 fp F' σ' H' r → D.nx σ' H'
  | .rt d => ∀ F' H' v, Same F F' → Grow F0 H0 F' H' → k.Rep G H0 F' H' v d → D.rt v H'
  | .bk r => ∀ fp F' σ' H', Same F F' → MS G W.J H0 F0 fp F' σ' H' r → D.bk σ' H'
  | .ct r => ∀ fp F' σ' H', Same F F' → MS G W.J H0 F0 fp F' σ' H' r → D.ct σ' H'
  | .er e r => ∀ fp F' σ' H' cls dd, Same F F' → MS G W.J H0 F0 fp F' σ' H' r → ExcIs G F' cls dd e → W.w cls dd σ' H'
  | .bad => False
noncomputable def tS (G : GC) (W : Wi) (k : Kd) (g : Env → Oc) : TS := fun D σ H => ∃ H0 F0 fp F r, MS G W.J H0 F0 fp F σ H r ∧ OutS G W k H0 F0 F D (g r)
noncomputable abbrev RS (X : Cx) (W : Wi) (k : Kd) (s : Stmt) (g : Env → Oc) : Prop := PS X s (tS (gOf X) W k g)
noncomputable abbrev RSs (X : Cx) (W : Wi) (k : Kd) (s : List Stmt) (g : Env → Oc) : Prop := PSs X s (tS (gOf X) W k g)
section
variable {G : GC} {W : Wi} {k : Kd} {σ : L2.St} {H F F1 : Hp} {H0 F0 : Hp} {fp : Nat → List Addr} {r : Env} {D : Ends}
theorem MS.g0 {J : L2.St → Prop} (m : MS G J H0 F0 fp F σ H r) : Grow F0 H0 F H := ⟨m.s0, m.f0, m.sub, m.new⟩
theorem OutS.same {o : Oc} (h : OutS G W k H0 F0 F D o) (s : Same F F1) : OutS G W k H0 F0 F1 D o := by
  cases o with
  | nx r => exact fun fp F' σ' H' q m => h fp F' σ' H' (s.trans q) m
  | rt d => exact fun F' H' v q g kr => h F' H' v (s.trans q) g kr
  | bk r => exact fun fp F' σ' H' q m => h fp F' σ' H' (s.trans q) m
  | ct r => exact fun fp F' σ' H' q m => h fp F' σ' H' (s.trans q) m
  | er e r => exact fun fp F' σ' H' cls dd q m x => h fp F' σ' H' cls dd (s.trans q) m x
  | bad => exact h
/-- the first of two -/
theorem OutS.seq {o : Oc} {g : Env → Oc} (h : OutS G W k H0 F0 F D (o.seq g)) : OutS G W k H0 F0 F { D with nx := tS G W k g D } o := by
  cases o with
  | nx r => exact fun fp F' σ' H' q m => ⟨H0, F0, fp, F', r, m, h.same q⟩
  | rt d => exact h
  | bk r => exact h
  | ct r => exact h
  | er e r => exact h
  | bad => exact h
/-- an expression ahead -/
theorem OutS.lift {α : Type} {x : Res α} {g : α → Oc} {P : Hp → Hp → α → Prop} (m : MS G W.J H0 F0 fp F σ H r) (h : OutS G W k H0 F0 F D (lift x r g)) (i : ∀ F' H' a, Grow F H F' H' → OutS G W k H0 F0 F' D (g a) → P F' H' a) : Out G W σ F H P x := by
  cases x with
  | ok a => exact fun F' H' gr => i F' H' a gr (OutS.same h gr.f)
  | er e => exact fun cls dd F' H' gr x => h fp F' σ H' cls dd gr.f (m.grow gr) x
  | bad => exact h
end
section
variable {X : Cx} {W : Wi} {k : Kd}
theorem rss_nil : RSs X W k [] (fun r => .nx r) := pss_nil.imp fun D σ H ⟨H0, F0, fp, F, r, m, o⟩ => o fp F σ H (Same.refl _) m
theorem rss_cons {s : Stmt} {ss : List Stmt} {g1 g2 : Env → Oc} (h1 : RS X W k s g1) (h2 : RSs X W k ss g2) : RSs X W k (s :: ss) (fun r => (g1 r).seq g2) :=
  (pss_cons h1 h2).imp fun D σ H ⟨H0, F0, fp, F, r, m, o⟩ => ⟨H0, F0, fp, F, r, m, o.seq⟩
theorem rss_one {s : Stmt} {g : Env → Oc} (h1 : RS X W k s g) : RSs X W k [s] g := pss_one h1
theorem rs_if {c : Expr} {a b : List Stmt} {pos : Pos} {f : Env → Res Bool} {ga gb : Env → Oc} (hc : RT X W c f) (ha : RSs X W k a ga) (hb : RSs X W k b gb) :
    RS X W k (.If c a b pos) (fun r => lift (f r) r fun t => if t = true then ga r else gb r) :=
  (ps_if hc ha hb).imp fun D σ H ⟨H0, F0, fp, F, r, m, o⟩ => ⟨H0, F0, fp, F, r, m, o.lift m fun F' H' t g o' => by
    cases t with
    | true => exact ⟨H0, F0, fp, F', r, m.grow g, o'⟩
    | false => exact ⟨H0, F0, fp, F', r, m.grow g, o'⟩⟩
theorem rs_ret {e : Expr} {pos : Pos} {f : Env → Res D} (he : RE X W k e f) : RS X W k (.Return (some e) pos) (fun r => lift (f r) r fun d => .rt d) :=
  (ps_ret he).imp fun D σ H ⟨H0, F0, fp, F, r, m, o⟩ => ⟨H0, F0, fp, F, r, m, o.lift m fun F' H' d g o' v kv => o' F' H' v (Same.refl _) (m.grow g).g0 (kv.later m.s0.fre)⟩
theorem rs_expr {k' : Kd} {e : Expr} {pos : Pos} {f : Env → Res D} (he : RE X W k' e f) (hs : swapsWith e none pos.line X.env = pure false := by rfl) : RS X W k (.Expr e pos) (fun r => lift (f r) r fun _ => .nx r) :=
  (ps_expr he hs).imp fun D σ H ⟨H0, F0, fp, F, r, m, o⟩ => ⟨H0, F0, fp, F, r, m, o.lift m fun F' H' d g o' v kv => o' fp F' σ H' (Same.refl _) (m.grow g)⟩
theorem jset {i j : Nat} {v0 : Option (Option V)} (h : i ≠ j) : ∀ (σ : L2.St) (v : Option V), σ[j]? = v0 → (σ.set i v)[j]? = v0 := fun σ v e => (List.getElem?_set_ne h).trans e
/-- .. and, where an error is handled, its name holds it -/
noncomputable def JX (J : L2.St → Prop) : Option Nat → Addr → L2.St → Prop
  | none, _ => J
  | some n, a => fun σ => J σ ∧ ∀ v, σ[n]? = some (some v) → v = .ref a
theorem JX.j {J : L2.St → Prop} {o : Option Nat} {a : Addr} {σ : L2.St} (h : JX J o a σ) : J σ := by
  cases o with
  | none => exact h
  | some n => exact h.1
theorem jxx {J : L2.St → Prop} {n j : Nat} {a : Addr} (hJ : ∀ σ v, J σ → J (σ.set j v)) (h : j ≠ n) : ∀ σ v, JX J (some n) a σ → JX J (some n) a (σ.set j v) := fun σ v ⟨h1, h2⟩ => ⟨hJ σ v h1, fun u e => by
  rw [List.getElem?_set_ne h] at e
  exact h2 u e⟩
/-- the names of a def that got a lambda: the third holds it, from the sixth on stands what it captured -/
noncomputable def PinsF (gs : List Nat) (f : Addr) (ws : List V) (τ : L2.St) : Prop := τ[2]? = some (some (.ref f)) ∧ gs.map (fun j => τ[j]?) = ws.map (fun v => some (some v)) ∧ ∀ j ∈ gs, 6 ≤ j
theorem jfn {i : Nat} {gs : List Nat} {f : Addr} {ws : List V} (h : i ≠ 2 ∧ i < 6) : ∀ (σ : L2.St) (v : Option V), PinsF gs f ws σ → PinsF gs f ws (σ.set i v) := fun σ v ⟨a, b, c⟩ => by
  refine ⟨(List.getElem?_set_ne h.1).trans a, ?_, c⟩
  rw [← b]
  exact List.map_congr_left fun j hj => List.getElem?_set_ne (by have := c j hj; omega)
noncomputable def tGd (G : GC) (J : L2.St → Prop) (g : D → Env → Res Env) : TG := fun v σ H Q => ∃ H0 F0 fp F r d, MS G J H0 F0 fp F σ H r ∧ Rep G F v d ∧ ∃ r', g d r = .ok r' ∧ ∀ fp' σ', MS G J H0 F0 fp' F σ' H r' → Q σ' H
noncomputable abbrev RG (X : Cx) (J : L2.St → Prop) (tg : Expr) (g : D → Env → Res Env) : Prop := PG X tg (tGd (gOf X) J g)
theorem PG.imp {e : Expr} {t t' : TG} (h : PG X e t) (i : ∀ v σ H Q, t' v σ H Q → t v σ H Q) : PG X e t' := ⟨fun pins s σ H v u Q I r hw => h.run pins s σ H v u Q I r (i v σ H Q hw)⟩
theorem PGs.imp {e : List Expr} {t t' : TGs} (h : PGs X e t) (i : ∀ v σ H Q, t' v σ H Q → t v σ H Q) : PGs X e t' := ⟨fun pins s σ H v u Q I r hw => h.run pins s σ H v u Q I r (i v σ H Q hw)⟩
theorem rg_name {J : L2.St → Prop} (i : Nat) {x : Str} {pos : Pos} (hN : X.N.Nodup) (hJ : ∀ σ v, J σ → J (σ.set i v) := by first | exact fun _ _ h => h | exact jset (by decide) | exact jfn (by decide) | exact jxx (fun _ _ h => h) (by decide) | exact jxx (jset (by decide)) (by decide)) (hi : X.N[i]? = some x := by rfl) (hx : Loc X.env.scope x := by first | exact Or.inl rfl | exact Or.inr rfl) (hf : X.fn x = true ∨ X.env.scope.names.lookup x = some .local := by first | exact .inl rfl | exact .inr rfl) :
    RG X J (.Name x pos) (fun d r => .ok (r.set i (.sh d))) :=
  PG.imp (pg_name hN hi hx hf) fun v σ H Q ⟨H0, F0, fp, F, r, d, m, rv, r', e, q⟩ => by
    cases e
    exact q fp _ (m.setS i rv hJ)
theorem rs_set (i : Nat) {x : Str} {e : Expr} {pos pos' : Pos} {f : Env → Res D} (hN : X.N.Nodup) (he : RE X W .S e f) (hJ : ∀ σ v, W.J σ → W.J (σ.set i v) := by first | exact fun _ _ h => h | exact jset (by decide) | exact jfn (by decide) | exact jxx (fun _ _ h => h) (by decide) | exact jxx (jset (by decide)) (by decide)) (hi : X.N[i]? = some x := by rfl) (hx : Loc X.env.scope x := by first | exact Or.inl rfl | exact Or.inr rfl)
    (hs : swapsWith e (some (.Name x pos')) pos.line X.env = pure false := by rfl) (hf : X.fn x = true ∨ X.env.scope.names.lookup x = some .local := by first | exact .inl rfl | exact .inr rfl) :
    RS X W k (.Assign [.Name x pos'] e pos) (fun r => lift (f r) r fun d => .nx (r.set i (.sh d))) :=
  (ps_set hN hi hx he hs hf).imp fun D σ H ⟨H0, F0, fp, F, r, m, o⟩ => ⟨H0, F0, fp, F, r, m, o.lift m fun F' H' d gr o' v kv => o' fp F' _ H' (Same.refl _) ((m.grow gr).setS i kv hJ)⟩
theorem MS.setNew {G : GC} {J : L2.St → Prop} {H0 F0 F H F' H' : Hp} {fp : Nat → List Addr} {σ : L2.St} {r : Env} (m : MS G J H0 F0 fp F σ H r) (gr : Grow F H F' H') {v : V} {d : D} {s : Shape} (i : Nat) (kv : (Kd.O s).Rep G H F' H' v d) (hJ : ∀ σ v, J σ → J (σ.set i v)) :
    ∃ fp', MS G J H0 F0 fp' F' (σ.set i (some v)) H' (r.set i (.ow s d)) := by
  obtain ⟨A, ow, n⟩ := kv
  refine ⟨_, (m.grow gr).setO i ow (fun a ha => m.s0.free (n a ha)) (fun j t e ne h a ha hb => ?_) hJ⟩
  obtain ⟨⟨w, _, o2⟩, _⟩ := m.ow j t e h
  obtain ⟨_, u, z⟩ := o2.there a hb
  rw [n a ha] at z
  cases z
end
/-- from the heap B on J walks the data ds, their parts in F -/
structure WalkD (G : GC) (F B : Hp) (J : It) (ds : List D) : Prop where
  goes : ∀ i H, i < ds.length → Same B H → J.go i H
  stops : ∀ H, Same B H → J.stop ds.length H
  yields : ∀ (i : Nat) F2 H2 x H3, i < ds.length → Same F F2 → Same F2 H2 → Same B H2 → J.yld i H2 x H3 → ∃ F3 d, Grow F2 H2 F3 H3 ∧ ds[i]? = some d ∧ Rep G F3 x d
noncomputable def tI (G : GC) (W : Wi) (b : Bool) (f : Env → Res (List D)) : TI := fun σ H R => ∃ H0 F0 fp F r, MS G W.J H0 F0 fp F σ H r ∧ Out G W σ F H (fun F' H' ds => ∀ J, WalkD G F' (if b = true then F' else nT H') J ds → R J H') (f r)
/-- what a for walks: b: it stands in the shared part -/
noncomputable abbrev RI (X : Cx) (W : Wi) (b : Bool) (tg iter : Expr) (f : Env → Res (List D)) : Prop := PI X tg iter (tI (gOf X) W b f)
noncomputable def forD (f : D → Env → Oc) : List D → Env → Oc
  | [], r => .nx r
  | d :: ds, r => match f d r with
    | .nx r' => forD f ds r'
    | .ct r' => forD f ds r'
    | .bk r' => .nx r'
    | o => o
@[simp] theorem forD_nil (f : D → Env → Oc) (r : Env) : forD f [] r = .nx r := rfl
theorem forD_cons (f : D → Env → Oc) (d : D) (ds : List D) (r : Env) : forD f (d :: ds) r = match f d r with
    | .nx r' => forD f ds r'
    | .ct r' => forD f ds r'
    | .bk r' => .nx r'
    | o => o := rfl
section
variable {X : Cx} {W : Wi} {k : Kd}
theorem rs_for {tg iter : Expr} {body : List Stmt} {pos : Pos} {f : Env → Res (List D)} {g : D → Env → Res Env} {gb : Env → Oc} (hp : PassesOwn (model X.prog X.w) X.A X.env X.xe) (hc : X.calm = true) (hi : RI X W true tg iter f) (hg : RG X W.J tg g) (hb : RSs X W k body gb)
    (hs : ∀ x, foldedSetIterable iter X.env x = pure x := by intro _; rfl) : RS X W k (.For tg iter body [] pos) (fun r => lift (f r) r fun ds => forD (fun d r => (into (g d r)).seq gb) ds r) :=
  (ps_for hp hc hi hg hb hs).imp fun D σ H ⟨H0, F0, fp, F, r, m, o⟩ => ⟨H0, F0, fp, F, r, m, o.lift m fun F1 H1 ds gr o1 J w => by
    rw [if_pos rfl] at w
    refine ⟨fun i n σ H => n = ds.length - i ∧ i ≤ ds.length ∧ ∃ fp F r, Same F1 F ∧ MS (gOf X) W.J H0 F0 fp F σ H r ∧ OutS (gOf X) W k H0 F0 F D (forD (fun d r => (into (g d r)).seq gb) (ds.drop i) r),
      ⟨ds.length, by simp, Nat.zero_le _, fp, F1, r, Same.refl _, m.grow gr, by simpa using o1⟩, ?_⟩
    rintro i n σ H ⟨rfl, hi, fp, F, r, sF, m, o⟩
    by_cases hlt : i < ds.length
    · refine .inr ⟨w.goes i H hlt (sF.trans m.sub), fun σ' H' => i + 1 ≤ ds.length ∧ ∃ fp F r, Same F1 F ∧ MS (gOf X) W.J H0 F0 fp F σ' H' r ∧ OutS (gOf X) W k H0 F0 F D (forD (fun d r => (into (g d r)).seq gb) (ds.drop (i + 1)) r),
        fun σ' H' ⟨h1, h2⟩ => ⟨ds.length - (i + 1), by omega, rfl, h1, h2⟩, fun x H' y => ?_⟩
      obtain ⟨F3, d, g3, ed, rx⟩ := w.yields i F H x H' hlt sF m.sub (sF.trans m.sub) y
      have e : ds.drop i = d :: ds.drop (i + 1) := by
        rw [List.drop_eq_getElem_cons hlt]
        rw [List.getElem?_eq_getElem hlt] at ed
        rw [Option.some.inj ed]
      rw [e, forD_cons] at o
      cases e1 : g d r with
      | ok r1 =>
        rw [e1] at o
        refine ⟨H0, F0, fp, F3, r, d, m.grow g3, rx, r1, e1, fun fp' σ' m' => ⟨H0, F0, fp', F3, r1, m', ?_⟩⟩
        have o' : OutS (gOf X) W k H0 F0 F3 D _ := OutS.same o g3.f
        simp only [into_ok, nx_seq] at o'
        cases e2 : gb r1 with
        | nx r2 => rw [e2] at o'; exact fun fp2 F2 σ2 H2 q m2 => ⟨hlt, fp2, F2, r2, (sF.trans g3.f).trans q, m2, o'.same q⟩
        | ct r2 => rw [e2] at o'; exact fun fp2 F2 σ2 H2 q m2 => ⟨hlt, fp2, F2, r2, (sF.trans g3.f).trans q, m2, o'.same q⟩
        | bk r2 => rw [e2] at o'; exact o'
        | rt d2 => rw [e2] at o'; exact o'
        | er x2 r2 => rw [e2] at o'; exact o'
        | bad => rw [e2] at o'; exact o'
      | er x2 => rw [e1] at o; exact o.elim
      | bad => rw [e1] at o; exact o.elim
    · have e : i = ds.length := by omega
      subst e
      rw [List.drop_length] at o
      exact .inl ⟨w.stops H (sF.trans m.sub), o fp F σ H (Same.refl _) m⟩⟩
end
end Mir
namespace Mir
open PySem PySem.Spec PyProof.Rows L2
noncomputable abbrev Takes (X : Cx) (W : WX) : Prop := L2N.Takes X W
noncomputable abbrev PMk (X : Cx) (e : Expr) (t : L2.St → Hp → XK → Prop) : Prop := L2N.PMk X e t
noncomputable abbrev Zn (cls : Value) (d : Option Addr) : Obj → Prop := L2N.Zn cls d
theorem takes0 {X : Cx} : Takes X (fun _ _ _ _ => False) := fun _ _ x => by
  obtain ⟨_, _, _, _, _, _, _, _, _, _, _, _, _, _, _, _, z⟩ := x
  exact z.elim
theorem passAt {X : Cx} {W : WX} (tk : Takes X W) (σ : L2.St) : PassesAt (L2N.CX X.prog X.w) X σ (WE W σ) := L2N.passAt tk σ
theorem takes_of {X : Cx} {E : XK} (hs : X.stack = X.env :: X.outer) (hf : X.env.frame = some X.env.locals) (hex : X.ex = []) {E₁ : Value → Shared → Prop}
    (hx : X.xe = fun e s' => wpAny (model X.prog X.w) X.A (leaving X.env e) (fun _ s'' => L2N.CX X.prog X.w X.outer X.H_0 X.s_0 E e s'') E₁ s') : Takes X (fun cls d _ H => E cls d H) := L2N.takes_of hs hf hex hx
theorem ps_raise {X : Cx} {W : WX} {e : Expr} {t : L2.St → Hp → XK → Prop} {pos : Pos} (hc : X.calm = true) (tk : Takes X W) (he : PMk X e t) : PS X (.Raise (some e) none pos) (fun _ σ H => t σ H fun cls d H' => W cls d σ H') := L2N.ps_raise hc tk he
theorem Fun.okN {P : Program} {w : World} {K : PySem.W.Frag} {mg : Str → Option Value} {base : Heap} {x qual : Str} {st : Stmt} {f : Addr} {fd : FuncData} {N ps : List Str} {k : Nat} {sp : Sp} (F : Fun K x qual st f fd) (S : FnScope N ps (defScope st)) (len : ∀ vs H Q E, sp vs H Q E → vs.length = ps.length)
    (hbody : ∀ (cdv : Value) (A : Around) (outer : List PySem.Env) (s : Shared) (H : Hp) (vs : List V) (Q : VK) (E : XK), Room k (A.deeper (envOfC qual (defScope st) s.heap.objs.size f cdv)) → sp vs H Q E →
      ∃ t, PSs (cxOf (L2N.CX P w) P w K mg base N qual (defScope st) f cdv A outer s H E) (defBody st) t ∧ t { nx := fun _ H' => Q .non H', rt := Q } (L2.start N vs) H) : FnOk P w K mg base (L2N.CX P w) (k + 1) f fd ps sp := by
  obtain ⟨oc, od, kV, doc, pm, an, cdv, ct, osl, rfl, lk, hcd⟩ := F.ex
  exact fn_of lk hcd S len fun A outer s H vs Q E hr hsp => hbody cdv A outer s H vs Q E hr hsp
variable [Tn]
/-- what a call is to leave -/
noncomputable def OutC (G : GC) (E : XK) {α : Type} (F H : Hp) (P : Hp → Hp → α → Prop) : Res α → Prop
  | .ok a => ∀ F' H', Grow F H F' H' → P F' H' a
  | .er e => ∀ cls dd F' H', Grow F H F' H' → ExcIs G F' cls dd e → E cls dd H'
  | .bad => False
/-- the promise of a def of worth g -/
noncomputable def spM (G : GC) (k : Kd) (g : List D → Res D) : Sp := fun vs H Q E => ∃ F ds, Same F H ∧ Tt F H ∧ RepAll G F vs ds ∧ OutC G E F H (fun F' H' d => ∀ v, k.Rep G H F' H' v d → Q v H') (g ds)
/-- the promise of an __init__: it makes of the arguments the object -/
noncomputable def spI (G : GC) (c : Nat) (g : List D → Res D) : Sp := fun vs H Q E => ∃ (x dx : Addr) (vs' : List V) (F H0 : Hp) (ds : List D), vs = .ref x :: vs' ∧ H x = some (.ins (G.ca c) dx []) ∧ Same H0 H ∧ H0 x = none ∧ Same F H0 ∧ Tt F H0 ∧ RepAll G F vs' ds ∧
  OutC G E F H0 (fun F' H' d => Rep G F' (.ref x) d → Q .non H') (g ds)
noncomputable def startD (n : Nat) (ds : List D) : Env := ds.map .sh ++ List.replicate (n - ds.length) .un
/-- a body's worth -/
noncomputable def runD (p n : Nat) (g : Env → Oc) (ds : List D) : Res D := if ds.length = p then (match g (startD n ds) with
  | .rt d => .ok d
  | .nx _ => .ok .non
  | .er e _ => .er e
  | _ => .bad) else .bad
noncomputable def startI (n c : Nat) (ds : List D) : Env := .ow .flat (.obj c []) :: startD (n - 1) ds
noncomputable def selfR (r : Env) : Res D := match r[0]? with
  | some (Slot.sh d) => .ok d
  | some (Slot.ow _ d) => .ok d
  | _ => .bad
/-- the worth of an __init__ -/
noncomputable def runI (p n c : Nat) (g : Env → Oc) (ds : List D) : Res D := if ds.length = p then (match g (startI n c ds) with
  | .nx r => selfR r
  | .er e _ => .er e
  | _ => .bad) else .bad
section
variable {G : GC}
theorem startD_un {n : Nat} {ds : List D} {i : Nat} {s : Slot} (h : (startD n ds)[i]? = some s) : (∃ d, ds[i]? = some d ∧ s = .sh d) ∨ s = .un := by
  unfold startD at h
  by_cases hi : i < ds.length
  · rw [List.getElem?_append_left (by simpa using hi), List.getElem?_map] at h
    cases e : ds[i]? with
    | none => rw [e] at h; cases h
    | some d => rw [e] at h; cases h; exact .inl ⟨d, rfl, rfl⟩
  · rw [List.getElem?_append_right (by simpa using hi), List.getElem?_replicate] at h
    split at h
    · cases h; exact .inr rfl
    · cases h
theorem start_at {N : List Str} {vs : List V} {i : Nat} {v : V} (h : vs[i]? = some v) : (L2.start N vs)[i]? = some (some v) := by
  have hi : i < vs.length := (List.getElem?_eq_some_iff.mp h).1
  unfold L2.start
  rw [List.getElem?_append_left (by simpa using hi), List.getElem?_map, h]
  rfl
theorem ms_start {F H : Hp} {N : List Str} {vs : List V} {ds : List D} (s : Same F H) (tt : Tt F H) (r : RepAll G F vs ds) : MS G (fun _ => True) H F (fun _ => []) F (L2.start N vs) H (startD N.length ds) where
  jo := trivial
  s0 := Stays.refl
  f0 := Same.refl _
  sub := s
  new := fun _ _ e => .inl e
  len := by
    unfold L2.start startD
    have := r.length
    simp only [List.length_append, List.length_map, List.length_replicate]
    omega
  sh := fun i d e => by
    rcases startD_un e with ⟨d', e1, e2⟩ | e2
    · cases e2
      obtain ⟨v, h1, h2⟩ := r.get e1
      exact ⟨v, start_at h1, h2⟩
    · cases e2
  ow := fun i s d e => by
    rcases startD_un e with ⟨_, _, z⟩ | z <;> cases z
  t0 := tt
  ap := fun i j s t d e _ h1 _ => by
    rcases startD_un h1 with ⟨_, _, z⟩ | z <;> cases z
end
section
variable {P : Program} {w : World} {K : PySem.W.Frag} {mg : Str → Option Value} {base : Heap}
noncomputable abbrev WD (E : XK) : Wi := ⟨fun cls d _ H => E cls d H, fun _ => True⟩
theorem spM_len {G : GC} {k : Kd} {n : Nat} {g : List D → Res D} (hg : ∀ ds, ds.length ≠ n → g ds = .bad) : ∀ vs H Q E, spM G k g vs H Q E → vs.length = n := fun vs H Q E ⟨F, ds, _, _, r, o⟩ => by
  by_cases h : ds.length = n
  · rw [r.length]; exact h
  · rw [hg ds h] at o; exact o.elim
/-- A DEF by its body (what it gives is shared) -/
theorem fn_ok {x qual : Str} {st : Stmt} {f : Addr} {fd : FuncData} {N ps : List Str} {k : Nat} {g : Env → Oc} (F : Fun K x qual st f fd) (S : FnScope N ps (defScope st))
    (hb : ∀ (cdv : Value) (A : Around) (outer : List PySem.Env) (s : Shared) (H : Hp) (E : XK), Room k (A.deeper (envOfC qual (defScope st) s.heap.objs.size f cdv)) →
      RSs (cxOf (L2N.CX P w) P w K mg base N qual (defScope st) f cdv A outer s H E) (WD E) .S (defBody st) g) : FnOk P w K mg base (L2N.CX P w) (k + 1) f fd ps (spM ⟨P, w, K, mg⟩ .S (runD ps.length N.length g)) := by
  refine Fun.okN F S (spM_len fun ds h => if_neg h) fun cdv A outer s H vs Q E hr ⟨F0, ds, s0, tt, r, o⟩ => ⟨_, hb cdv A outer s H E hr, H, F0, _, F0, _, ms_start s0 tt r, ?_⟩
  unfold runD at o
  split at o
  case isFalse => exact o.elim
  cases e : g (startD N.length ds) with
  | nx r' =>
    rw [e] at o
    exact fun fp F' σ' H' _ m => o F' H' m.g0 .non .non
  | rt d =>
    rw [e] at o
    exact fun F' H' v _ gr kr => o F' H' gr v kr
  | er x r' =>
    rw [e] at o
    exact fun fp F' σ' H' cls dd _ m ex => o cls dd F' H' m.g0 ex
  | bk r' => rw [e] at o; exact o.elim
  | ct r' => rw [e] at o; exact o.elim
  | bad => rw [e] at o; exact o.elim
end
/-- a def of the module by its name -/
structure FnM (P : Program) (w : World) (K : PySem.W.Frag) (mg : Str → Option Value) (base : Heap) (j : Nat) (x : Str) (k : Kd) (g : List D → Res D) : Prop where
  ex : ∃ (f : Addr) (fd : FuncData) (ps : List Str), FnOk P w K mg base (L2N.CX P w) j f fd ps (spM ⟨P, w, K, mg⟩ k g) ∧ mg x = some (.ref f) ∧ PySem.W.keepIn K (.ref f) = true ∧ Binds K fd ps []
/-- the class c is made by its __init__ -/
structure MkM (P : Program) (w : World) (K : PySem.W.Frag) (mg : Str → Option Value) (base : Heap) (j : Nat) (c : Nat) (g : List D → Res D) : Prop where
  ex : ∃ (f : Addr) (fd : FuncData) (ps : List Str), FnOk P w K mg base (L2N.CX P w) j f fd ps (spI ⟨P, w, K, mg⟩ c g) ∧ Mk K ((⟨P, w, K, mg⟩ : GC).ca c) f ∧ mg (cname c) = some (.ref ((⟨P, w, K, mg⟩ : GC).ca c)) ∧ Binds K fd ps []
/-- an attribute f, by classes: its place -/
structure FldM (K : PySem.W.Frag) (ca : Nat → Addr) (f : Str) (p : Nat → Option Nat) : Prop where
  h : ∀ c i, p c = some i → (cflds c)[i]? = some f ∧ (cflds c).Nodup ∧ Cls K (ca c) ∧ NoAttr K (ca c) f
theorem lookup_zip {f : Str} : ∀ {l : List Str} {ws : List V} {i : Nat} {v : V}, l.Nodup → l[i]? = some f → ws[i]? = some v → (l.zip ws).lookup f = some v
  | [], _, _, _, _, h, _ => by simp at h
  | _ :: _, [], _, _, _, _, h => by simp at h
  | a :: l, w :: ws, 0, v, _, h, q => by
    simp at h q
    subst h q
    simp [List.lookup]
  | a :: l, w :: ws, i + 1, v, n, h, q => by
    have hm : f ∈ l := List.mem_of_getElem? (by simpa using h)
    have ne : f ≠ a := fun e => (List.nodup_cons.mp n).1 (e ▸ hm)
    have e : (f == a) = false := by simpa using ne
    rw [List.zip_cons_cons, List.lookup_cons, e]
    exact lookup_zip (i := i) (List.nodup_cons.mp n).2 (by simpa using h) (by simpa using q)
/-- an attribute of an object -/
noncomputable def fldD (p : Nat → Option Nat) (d : D) : Res D := match d with
  | .obj c vs => match p c with
    | some i => match vs[i]? with
      | some d => .ok d
      | none => .bad
    | none => .bad
  | _ => .bad
theorem fldD_er {p : Nat → Option Nat} {d e : D} (h : fldD p d = .er e) : False := by
  unfold fldD at h
  split at h
  · split at h
    · split at h <;> cases h
    · cases h
  · cases h
theorem fldD_ok {p : Nat → Option Nat} {d e : D} (h : fldD p d = .ok e) : ∃ c vs i, d = .obj c vs ∧ p c = some i ∧ vs[i]? = some e := by
  unfold fldD at h
  split at h
  · rename_i c vs
    split at h
    · rename_i i hp
      split at h
      · rename_i d' hv
        cases h
        exact ⟨c, vs, i, rfl, hp, hv⟩
      · cases h
    · cases h
  · cases h
section
variable {X : Cx} {W : Wi} {k : Kd} {e o : Expr} {es : List Expr} {p pos apos : Pos}
theorem OutC.of {G : GC} {W : Wi} {σ : L2.St} {F H : Hp} {α : Type} {P : Hp → Hp → α → Prop} {x : Res α} (h : Out G W σ F H P x) : OutC G (WE W.w σ) F H P x := by
  cases x <;> exact h
theorem spM_of {G : GC} {W : Wi} {σ : L2.St} {F H1 H : Hp} {g : List D → Res D} {vs : List V} {ds : List D} {Q : VK} (s : Same F H) (tt : Tt F H) (hs : Fre H1 H) (r : RepAll G F vs ds)
    (o : Out G W σ F H (fun F' H' d => ∀ v, k.Rep G H1 F' H' v d → Q v H') (g ds)) : spM G k g vs H Q (WE W.w σ) :=
  ⟨F, ds, s, tt, r, OutC.of (o.imp fun F' H' d _ q v kv => q v (kv.later hs))⟩
/-- f(e, ..) -/
theorem re_call {j : Nat} {x : Str} {g : List D → Res D} {fa : Env → Res (List D)} (M : FnM X.prog X.w X.K X.mg X.base j x k g) (hr : Room j X.A) (tk : Takes X W.w) (ha : RA X W (e :: es) fa) (hg : Gl X x := by rfl)
    (hdb : (x == ("__debug__" : Str)) = false := by decide) (he : starEach (e :: es) X.env = (false, eval e X.env) :: starEach es X.env := by rfl) (hpl : (backTo pos (starEach es X.env)).any (·.1) = false := by rfl) :
    RE X W k (.Call (.Name x p) (e :: es) [] pos) (fun r => fa r >>= g) := by
  obtain ⟨f, fd, ps, F, hm, hk, hb⟩ := M.ex
  refine ⟨fun pins s σ H Q I ⟨H0, F0, fp, F1, r, m, o⟩ => ?_⟩
  refine wpAny_Call_Name_kw (ld_glob I hg hm ?_ hdb)
  have hw : tA (gOf X) W fa σ H fun vs H1 => spM (gOf X) k g vs H1 Q (WE W.w σ) := ⟨H0, F0, fp, F1, r, m, o.bind fun F2 H2 ds gr o2 vs rv => spM_of gr.sub (gr.h.tt m.tt) gr.h.fre rv o2⟩
  refine PySem.W.callWith_K (h₀ := X.base) I.ok.mod.kin hk (thn (ha.run pos pins s σ H _ I hw) fun us s1 ⟨vs, H1, I1, r1, q⟩ => ⟨I1.kIn, ?_⟩) he hpl
  exact run_fnS F hr hb (passAt tk σ) I1 r1 q
/-- o.f -/
theorem re_fld {f : Str} {pt : Nat → Option Nat} {fo : Env → Res D} (M : FldM X.K (gOf X).ca f pt) (ho : RE X W .S o fo) (hb : attributeBase o f X.env (eval o X.env) = eval o X.env := by rfl) : RE X W .S (.Attribute o f pos) (fun r => fo r >>= fldD pt) :=
  (pe_fld ho hb).imp fun σ H Q ⟨H0, F0, fp, F, r, m, oo⟩ => ⟨H0, F0, fp, F, r, m, oo.bind fun F' H' d gr o2 v kv => by
    cases ef : fldD pt d with
    | er x => exact (fldD_er ef).elim
    | bad => rw [ef] at o2; exact o2.elim
    | ok d' =>
      obtain ⟨c, vs, i, rfl, hp, hv⟩ := fldD_ok ef
      rw [ef] at o2
      have kv' : Rep (gOf X) F' v (.obj c vs) := kv
      cases kv' with
      | @obj a dx _ ws _ ha hz ra =>
        obtain ⟨h1, h2, h3, h4⟩ := M.h c i hp
        obtain ⟨w, hw, rw'⟩ := ra.get hv
        exact ⟨a, _, dx, _, w, rfl, gr.sub _ _ ha, h3, h4, lookup_zip h2 h1 hw, o2 F' H' (Grow.refl gr.sub) w rw'⟩⟩
end
end Mir
namespace Mir
open PySem PySem.Spec PyProof.Rows L2
variable [Tn]
section
variable {X : Cx} {CX : CXT} {k : Nat} {f C : Addr} {fd : FuncData} {ps : List Str} {sp : Sp} {E : L2.St → XK}
/-- a new instance and its __init__, what is raised wished for at the names' values -/
theorem run_makeS {pins : List (Addr × Obj)} {σ : L2.St} {H : Hp} {s : Shared} {Q : VK} {us : List Value} {vs : List V} (M : Mk X.K C f) (F : FnOk X.prog X.w X.K X.mg X.base CX k f fd ps sp) (hr : Room (k + 1) X.A) (hb : Binds X.K fd ps []) (hx : PassesAt CX X σ (E σ)) (I : Inv X pins σ H s) (r : Vals vs us)
    (h : ∀ x dx, H x = none → H dx = none → dx ≠ x → sp (.ref x :: vs) (upd (upd H dx (.own x)) x (.ins C dx [])) (fun v H2 => v = .non ∧ Q (.ref x) H2) (E σ)) : wpAny (model X.prog X.w) X.A (call (.ref C) us) (EP X pins σ Q) X.xe s := by
  have n1 : H (s.heap.objs.size + 1) = none := I.hok.fresh (Nat.le_succ _)
  have n0 : H s.heap.objs.size = none := I.hok.fresh (Nat.le_refl _)
  have due := h _ _ n1 n0 (Nat.ne_of_lt (Nat.lt_succ_self _))
  have J := Inv.made (C := C) I
  have rr : Vals (V.ref (s.heap.objs.size + 1) :: vs) (Value.ref (s.heap.objs.size + 1) :: us) := .cons rfl r
  have hl : (Value.ref (s.heap.objs.size + 1) :: us).length = ps.length := (F.len _ _ _ _ due) ▸ rr.length.symm
  have bt := hb _ (Value.ref (s.heap.objs.size + 1) :: us) J.kIn (by rw [List.append_nil]; exact hl)
  rw [List.append_nil] at bt
  refine wpAny_call (make_map (f := f) I.kIn M.makes M.init (beq_iff_eq.mp M.fn) (codeAny_mono (F.run _ X.stack _ _ _ _ _ _ (E σ) (hr.make C us []) (J.env0.make C us []) bt rr due) fun res s' q => ?_))
  match res, q with
  | .error e, q => exact hx pins _ _ e s' J q
  | .ok (.ret u), q =>
    obtain ⟨v, H', I', rv, ev, q'⟩ := J.after q
    subst ev
    exact ⟨rv, ⟨V.ref (s.heap.objs.size + 1), H', I', rfl, q'⟩⟩
  | .ok .next, q => exact q.elim
  | .ok .brk, q => exact q.elim
  | .ok .cont, q => exact q.elim
end
section
variable {X : Cx} {W : Wi} {e : Expr} {es : List Expr} {p pos : Pos}
theorem spI_of {G : GC} {W : Wi} {σ : L2.St} {F H1 H : Hp} {c : Nat} {g : List D → Res D} {vs : List V} {ds : List D} {Q : VK} (s : Same F H) (tt : Tt F H) (r : RepAll G F vs ds)
    (o : Out G W σ F H (fun F' H' d => ∀ v, Kd.S.Rep G H1 F' H' v d → Q v H') (g ds)) : ∀ x dx, H x = none → H dx = none → dx ≠ x →
      spI G c g (.ref x :: vs) (upd (upd H dx (.own x)) x (.ins (G.ca c) dx [])) (fun v H2 => v = .non ∧ Q (.ref x) H2) (WE W.w σ) := fun x dx nx ndx ne =>
  ⟨x, dx, vs, F, H, ds, rfl, upd_same, fun b o e => by rw [upd_ne (ne_of_none e nx), upd_ne (ne_of_none e ndx)]; exact e, nx, s, tt, r, OutC.of (o.imp fun F' H' d _ q rv => ⟨rfl, q (.ref x) rv⟩)⟩
/-- C(e, ..) -/
theorem re_make {j c : Nat} {x : Str} {g : List D → Res D} {fa : Env → Res (List D)} (M : MkM X.prog X.w X.K X.mg X.base j c g) (hr : Room (j + 1) X.A) (tk : Takes X W.w) (ha : RA X W (e :: es) fa) (hx : x = cname c := by rfl) (hg : Gl X x := by rfl)
    (hdb : (x == ("__debug__" : Str)) = false := by decide) (he : starEach (e :: es) X.env = (false, eval e X.env) :: starEach es X.env := by rfl) (hpl : (backTo pos (starEach es X.env)).any (·.1) = false := by rfl) :
    RE X W .S (.Call (.Name x p) (e :: es) [] pos) (fun r => fa r >>= g) := by
  subst hx
  obtain ⟨f, fd, ps, F, hmk, hm, hb⟩ := M.ex
  refine ⟨fun pins s σ H Q I ⟨H0, F0, fp, F1, r, m, o⟩ => ?_⟩
  refine wpAny_Call_Name_kw (ld_glob I hg hm ?_ hdb)
  have hw : tA (gOf X) W fa σ H fun vs H1 => ∀ x dx, H1 x = none → H1 dx = none → dx ≠ x → spI (gOf X) c g (.ref x :: vs) (upd (upd H1 dx (.own x)) x (.ins ((gOf X).ca c) dx [])) (fun v H2 => v = .non ∧ Q (.ref x) H2) (WE W.w σ) :=
    ⟨H0, F0, fp, F1, r, m, o.bind fun F2 H2 ds gr o2 vs rv => spI_of gr.sub (gr.h.tt m.tt) rv o2⟩
  refine PySem.W.callWith_K (h₀ := X.base) I.ok.mod.kin hmk.kp (thn (ha.run pos pins s σ H _ I hw) fun us s1 ⟨vs, H1, I1, r1, q⟩ => ⟨I1.kIn, ?_⟩) he hpl
  exact run_makeS hmk F hr hb (passAt tk σ) I1 r1 q
end
section
variable {G : GC}
theorem spI_len {c n : Nat} {g : List D → Res D} (hg : ∀ ds, ds.length ≠ n → g ds = .bad) : ∀ vs H Q E, spI G c g vs H Q E → vs.length = n + 1 := fun vs H Q E ⟨x, dx, vs', F, H0, ds, ev, _, _, _, _, _, r, o⟩ => by
  by_cases h : ds.length = n
  · rw [ev, List.length_cons, r.length, h]
  · rw [hg ds h] at o; exact o.elim
theorem ms_startI {c : Nat} {x dx : Addr} {F H0 H : Hp} {N : List Str} {vs : List V} {ds : List D} (hx : H x = some (.ins (G.ca c) dx [])) (s0 : Same H0 H) (nx : H0 x = none) (s : Same F H0) (tt : Tt F H0) (r : RepAll G F vs ds) (hN : 0 < N.length) :
    MS G (fun σ => σ[0]? = some (some (.ref x))) H0 F (fun _ => [x]) F (L2.start N (.ref x :: vs)) H (startI N.length c ds) where
  jo := start_at rfl
  s0 := .of s0 (Same.refl _) (fun _ _ e => .inl e)
  f0 := Same.refl _
  sub := s.trans s0
  new := fun _ _ e => .inl e
  len := by
    unfold L2.start startI startD
    have := r.length
    simp only [List.length_append, List.length_map, List.length_replicate, List.length_cons]
    omega
  sh := fun i d e => by
    cases i with
    | zero => cases e
    | succ i =>
      rcases startD_un (show (startD (N.length - 1) ds)[i]? = some (.sh d) from e) with ⟨d', e1, e2⟩ | e2
      · cases e2
        obtain ⟨v, h1, h2⟩ := r.get e1
        exact ⟨v, start_at (by simpa using h1), h2⟩
      · cases e2
  ow := fun i t d e => by
    cases i with
    | zero =>
      cases e
      refine ⟨⟨.ref x, start_at rfl, ?_⟩, fun a ha => by rw [List.mem_singleton.mp ha]; exact nx⟩
      refine Own.obj (ws := []) (dx := dx) rfl (by rw [List.zip_nil_right]; exact hx) (s.free nx) (Nat.zero_le _) .nil (by simp)
    | succ i =>
      rcases startD_un (show (startD (N.length - 1) ds)[i]? = some (.ow t d) from e) with ⟨_, _, z⟩ | z <;> cases z
  ap := fun i j t u d e ne h1 h2 => by
    have z : ∀ {i : Nat} {t : Shape} {d : D}, (startI N.length c ds)[i]? = some (.ow t d) → i = 0 := fun {i t d} h => by
      cases i with
      | zero => rfl
      | succ i =>
        rcases startD_un (show (startD (N.length - 1) ds)[i]? = some (.ow t d) from h) with ⟨_, _, z⟩ | z <;> cases z
    exact absurd ((z h1).trans (z h2).symm) ne
  t0 := tt
end
section
variable {P : Program} {w : World} {K : PySem.W.Frag} {mg : Str → Option Value} {base : Heap}
noncomputable abbrev WI (x : Addr) (E : XK) : Wi := ⟨fun cls d _ H => E cls d H, fun σ => σ[0]? = some (some (.ref x))⟩
theorem fn_okI {qual : Str} {st : Stmt} {f : Addr} {fd : FuncData} {N ps : List Str} {k c : Nat} {g : Env → Oc} (F : Fun K "__init__" qual st f fd) (S : FnScope N ps (defScope st)) (hps : 0 < ps.length)
    (hb : ∀ (cdv : Value) (A : Around) (outer : List PySem.Env) (s : Shared) (H : Hp) (E : XK) (x : Addr), Room k (A.deeper (envOfC qual (defScope st) s.heap.objs.size f cdv)) →
      RSs (cxOf (L2N.CX P w) P w K mg base N qual (defScope st) f cdv A outer s H E) (WI x E) .S (defBody st) g) : FnOk P w K mg base (L2N.CX P w) (k + 1) f fd ps (spI ⟨P, w, K, mg⟩ c (runI (ps.length - 1) N.length c g)) := by
  have hNl : ps.length ≤ N.length := by have := congrArg List.length S.pre; rw [List.length_take] at this; omega
  refine Fun.okN F S (fun vs H Q E h => (spI_len (n := ps.length - 1) (fun ds h => if_neg h) vs H Q E h).trans (by omega)) fun cdv A outer s H vs Q E hr ⟨x, dx, vs', F1, H0, ds, ev, hx, s0, nx, sF, tt0, r, o⟩ => ?_
  subst ev
  refine ⟨_, hb cdv A outer s H E x hr, H0, F1, _, F1, _, ms_startI hx s0 nx sF tt0 r (by omega), ?_⟩
  unfold runI at o
  split at o
  case isFalse => exact o.elim
  cases e : g (startI N.length c ds) with
  | rt d => rw [e] at o; exact o.elim
  | er y r' =>
    rw [e] at o
    exact fun fp F' σ' H' cls dd _ m ex => o cls dd F' H' m.g0 ex
  | nx r' =>
    rw [e] at o
    intro fp F' σ' H' _ m
    have o' : OutC _ E F1 H0 _ (selfR r') := o
    have j0 : σ'[0]? = some (some (.ref x)) := m.jo
    cases e2 : selfR r' with
    | er y => unfold selfR at e2; split at e2 <;> cases e2
    | bad => rw [e2] at o'; exact o'.elim
    | ok d =>
      rw [e2] at o'
      obtain ⟨F2, _, m2⟩ := m.freeze 0
      have hs : (freeze 0 r')[0]? = some (.sh d) := by
        unfold selfR at e2
        split at e2
        · rename_i d' hd
          cases e2
          unfold freeze
          rw [hd]
          exact hd
        · rename_i t d' hd
          cases e2
          unfold freeze
          rw [hd]
          exact List.getElem?_set_self (List.getElem?_eq_some_iff.mp hd).1
        · cases e2
      obtain ⟨v, hv, rv⟩ := m2.sh 0 d hs
      rw [j0] at hv
      cases hv
      exact o' F2 H' m2.g0 rv
  | bk r' => rw [e] at o; exact o.elim
  | ct r' => rw [e] at o; exact o.elim
  | bad => rw [e] at o; exact o.elim
end
section
variable {G : GC} {F H F' H' : Hp}
theorem OwnAll.snoc {f f' : Nat → Shape} {s : Shape} {v : V} {d : D} {B : List Addr} (q : Own G F H s v d B) : ∀ {n : Nat} {vs : List V} {ds : List D} {A : List Addr}, OwnAll G F H f n vs ds A → (∀ j, n ≤ j → j < n + vs.length → f' j = f j) → f' (n + vs.length) = s → (∀ a ∈ A, a ∉ B) →
    OwnAll G F H f' n (vs ++ [v]) (ds ++ [d]) (A ++ B)
  | n, [], _, _, .nil, _, h2, _ => by
    have z : OwnAll G F H f' n [v] [d] (B ++ []) := .cons (by rw [show f' n = s from h2]; exact q) .nil (fun _ _ h => nomatch h)
    rw [List.append_nil] at z
    exact z
  | n, v' :: vs, d' :: ds, _, .cons (A := A1) (B := A2) r t x, h1, h2, h3 => by
    rw [List.append_assoc]
    refine .cons (by rw [h1 n (Nat.le_refl _) (by simp)]; exact r) (OwnAll.snoc q t (fun j a b => h1 j (by omega) (by simp only [List.length_cons]; omega)) (by rw [← h2]; congr 1; simp only [List.length_cons]; omega) fun a ha => h3 a (List.mem_append_right _ ha)) fun a ha hb => ?_
    rcases List.mem_append.mp hb with z | z
    · exact x a ha z
    · exact h3 a (List.mem_append_left _ ha) z
theorem OwnAll.length {f : Nat → Shape} : ∀ {n : Nat} {vs : List V} {ds : List D} {A : List Addr}, OwnAll G F H f n vs ds A → vs.length = ds.length
  | _, _, _, _, .nil => rfl
  | _, _, _, _, .cons _ t _ => congrArg (· + 1) (OwnAll.length t)
theorem Keep.upd {A : List Addr} {a : Addr} {o : HO} (h : a ∉ A) : Keep A F H F (upd H a o) := ⟨fun b hb u e => by rw [upd_ne (fun z => h (by rw [← z]; exact hb))]; exact e, Same.refl _, fun _ _ z => z⟩
theorem putF_zip {f : Str} {y : V} : ∀ {l : List Str} {ws : List V}, l.Nodup → l[ws.length]? = some f → putF f y (l.zip ws) = l.zip (ws ++ [y])
  | [], ws, _, h => by simp at h
  | a :: l, [], _, h => by
    simp at h
    subst h
    show [(a, y)] = _
    rw [List.nil_append, List.zip_cons_cons, List.zip_nil_right]
  | a :: l, w :: ws, n, h => by
    have h' : l[ws.length]? = some f := by simpa using h
    have hm : f ∈ l := List.mem_of_getElem? h'
    have ne : ¬ a = f := fun e => (List.nodup_cons.mp n).1 (e ▸ hm)
    rw [List.cons_append, List.zip_cons_cons, List.zip_cons_cons, ← putF_zip (List.nodup_cons.mp n).2 h']
    show (if a = f then _ else _) = _
    rw [if_neg ne]
/-- an owned thing is written: the state behind -/
theorem MS.write {J : L2.St → Prop} {H0 F0 : Hp} {fp : Nat → List Addr} {σ : L2.St} {r : Env} (m : MS G J H0 F0 fp F σ H r) {i : Nat} {s s' : Shape} {d d' : D} {v : V} {a : Addr} {o : HO} {A : List Addr} (hi : r[i]? = some (.ow s d)) (hv : σ[i]? = some (some v)) (ha : a ∈ fp i)
    (q : Own G F (upd H a o) s' v d' A) (hA : ∀ b ∈ A, b ∈ fp i ∨ (H b = none ∨ (H0 b = none ∧ ∀ j, j ≠ i → ∀ t e, r[j]? = some (.ow t e) → b ∉ fp j))) : ∃ fp', MS G J H0 F0 fp' F σ (upd H a o) (r.set i (.ow s' d')) := by
  have hil : i < r.length := (List.getElem?_eq_some_iff.mp hi).1
  obtain ⟨⟨v0, hv0, o0⟩, hn⟩ := m.ow i s d hi
  have h0 : H0 a = none := hn a ha
  have f0 : F a = none := (o0.there a (by assumption)).1
  have notA : ∀ j t e, j ≠ i → r[j]? = some (.ow t e) → a ∉ fp j := fun j t e ne h z => m.ap i j s t d e (Ne.symm ne) hi h a ha z
  refine ⟨fun j => if j = i then A else fp j, m.jo, m.s0.upd h0, m.f0, fun b u e => ?_, m.new, by simpa using m.len, fun j e h => ?_, fun j t e h => ?_, fun j k t u e1 e2 ne h1 h2 b => ?_, m.t0⟩
  · rw [upd_ne (ne_of_none e f0)]; exact m.sub b u e
  · rcases get_set_slot h with ⟨_, x, _⟩ | ⟨ne, h⟩
    · cases x
    · exact m.sh j e h
  · rcases get_set_slot h with ⟨rfl, x, hl⟩ | ⟨ne, h⟩
    · cases x
      rw [if_pos rfl]
      refine ⟨⟨v, hv, q⟩, fun b hb => ?_⟩
      rcases hA b hb with z | z | z
      · exact hn b z
      · exact m.s0.free z
      · exact z.1
    · rw [if_neg (Ne.symm ne)]
      obtain ⟨⟨u, q1, q2⟩, q3⟩ := m.ow j t e h
      exact ⟨⟨u, q1, q2.keep (Keep.upd (notA j t e (Ne.symm ne) h))⟩, q3⟩
  · have other : ∀ j t e, j ≠ i → r[j]? = some (.ow t e) → ∀ b ∈ A, b ∉ fp j := fun j t e ne h b hb z => by
      rcases hA b hb with y | y | y
      · exact m.ap i j s t d e (Ne.symm ne) hi h b y z
      · obtain ⟨⟨_, _, o3⟩, _⟩ := m.ow j t e h
        obtain ⟨_, w, e3⟩ := o3.there b z
        rw [y] at e3
        cases e3
      · exact y.2 j ne t e h z
    rcases get_set_slot h1 with ⟨rfl, x, _⟩ | ⟨n1, h1⟩
    · rcases get_set_slot h2 with ⟨z, _, _⟩ | ⟨n2, h2⟩
      · exact absurd z ne
      · rw [if_pos rfl, if_neg (Ne.symm n2)]
        exact other k u e2 (Ne.symm n2) h2 b
    · rcases get_set_slot h2 with ⟨rfl, x, _⟩ | ⟨n2, h2⟩
      · rw [if_pos rfl, if_neg (Ne.symm n1)]
        exact fun hb hz => other j t e1 (Ne.symm n1) h1 b hz hb
      · rw [if_neg (Ne.symm n1), if_neg (Ne.symm n2)]
        exact m.ap j k t u e1 e2 ne h1 h2 b
end
/-- a class that may be made and read -/
structure ClM (K : PySem.W.Frag) (ca : Nat → Addr) (f : Str) (c : Nat) : Prop where
  cl : Cls K (ca c)
  no : NoAttr K (ca c) f
  nd : (cflds c).Nodup
/-- the n-th part is of the shape t -/
noncomputable def Shape.setKid (s : Shape) (n : Nat) (t : Shape) : Shape := match t with
  | .sh => s
  | t => .parts ((List.range n).map s.kid ++ [t])
/-- the n-th part is none of one's own as yet -/
noncomputable def Shape.fits (s : Shape) (n : Nat) : Bool := match s with
  | .parts l => decide (l.length ≤ n)
  | .opts _ => false
  | _ => true
theorem Shape.kid_fits {s : Shape} {n : Nat} (h : s.fits n = true) : s.kid n = .sh := by
  cases s with
  | parts l =>
    have h' : l.length ≤ n := of_decide_eq_true h
    show l.getD n .sh = .sh
    rw [List.getD_eq_getElem?_getD, List.getElem?_eq_none h']
    rfl
  | opts l => cases h
  | _ => rfl
theorem Shape.setKid_own {s : Shape} {n : Nat} {t : Shape} (h : s.own = true) : (s.setKid n t).own = true := by
  cases t with
  | sh => exact h
  | _ => rfl
theorem Shape.setKid_at {s : Shape} {n : Nat} {t : Shape} (h : s.fits n = true) : (s.setKid n t).kid n = t := by
  have e : ∀ t, Shape.kid (.parts ((List.range n).map s.kid ++ [t])) n = t := fun t => by
    show (_ ++ [t]).getD n .sh = t
    rw [List.getD_eq_getElem?_getD, List.getElem?_append_right (by simp)]
    simp
  cases t with
  | sh => exact Shape.kid_fits h
  | flat => exact e _
  | parts l => exact e _
  | opts l => exact e _
theorem Shape.setKid_lt {s : Shape} {n j : Nat} {t : Shape} (h : j < n) : (s.setKid n t).kid j = s.kid j := by
  have e : ∀ t, Shape.kid (.parts ((List.range n).map s.kid ++ [t])) j = s.kid j := fun t => by
    show (_ ++ [t]).getD j .sh = _
    rw [List.getD_eq_getElem?_getD, List.getElem?_append_left (by simpa using h), List.getElem?_map, List.getElem?_range h]
    rfl
  cases t with
  | sh => rfl
  | flat => exact e _
  | parts l => exact e _
  | opts l => exact e _
section
variable {X : Cx} {W : Wi} {k : Kd} {e : Expr} {f : Str} {pos p' ps : Pos} {fe : Env → Res D}
theorem re_shO {e : Expr} {f : Env → Res D} (h : RE X W .S e f) : RE X W (.O .sh) e f :=
  h.imp fun σ H Q ⟨H0, F0, fp, F, r, m, o⟩ => ⟨H0, F0, fp, F, r, m, o.imp fun F' H' d _ p v kv => p v ⟨[], .sh kv, fun _ z => nomatch z⟩⟩
/-- the next attribute of the object in slot i -/
noncomputable def setF (i c : Nat) (f : Str) (s : Shape) (d : D) (r : Env) : Oc := match r[i]? with
  | some (.ow g (.obj c' vs)) => if c' = c ∧ (cflds c)[vs.length]? = some f ∧ g.own = true ∧ g.fits vs.length = true then .nx (r.set i (.ow (g.setKid vs.length s) (.obj c (vs ++ [d])))) else .bad
  | _ => .bad
theorem rs_fldO (i c : Nat) {s : Shape} {x : Str} (M : ClM X.K (gOf X).ca f c) (he : RE X W (.O s) e fe) (hN : X.N[i]? = some x := by rfl) (hv : Vis X.env.scope x := by first | exact Or.inl rfl | exact Or.inr (Or.inl rfl)) (hd : (x == ("__debug__" : Str)) = false := by decide)
    (hcd : (x == ("__classdict__" : Str)) = false := by decide) (hs : swapsWith e (some (.Attribute (.Name x ps) f p')) pos.line X.env = pure false := by rfl) :
    RS X W k (.Assign [.Attribute (.Name x ps) f p'] e pos) (fun r => lift (fe r) r fun d => setF i c f s d r) :=
  (ps_fld (pe_var hN hv hd hcd) he hs).imp fun D σ H ⟨H0, F0, fp, F, r, m, o⟩ => ⟨H0, F0, fp, F, r, m, o.lift m fun F' H' d gr o' v ⟨B, ob, nb⟩ => by
    unfold setF at o'
    split at o'
    · rename_i g c' vs hi
      split at o'
      · rename_i hc
        obtain ⟨rfl, hf, go, gf⟩ := hc
        have m' := m.grow gr
        obtain ⟨⟨w, hw, ow⟩, hn⟩ := m'.ow i _ _ hi
        have hff : fp i = fp i := rfl
        generalize hA : fp i = A at ow hn
        cases ow with
        | sh _ => cases go
        | @obj _ a dx _ ws _ A' _ ha fa hz oa na =>
          have hl := oa.length
          refine ⟨.ref a, hw, a, (gOf X).ca c', dx, _, rfl, ha, M.cl, M.no, ?_, ?_⟩
          · rw [List.length_zip]
            have : (cflds c').length ≤ 8 := by
              unfold cflds
              split <;> decide
            omega
          · rw [putF_zip M.nd (by rw [hl]; exact hf)]
            have ain : a ∈ fp i := by rw [hA]; exact List.mem_cons_self
            have aB : a ∉ B := fun z => by
              obtain ⟨⟨_, q1, q2⟩, _⟩ := m.ow i _ _ hi
              obtain ⟨_, u, e⟩ := q2.there a ain
              rw [nb a z] at e
              cases e
            have AB : ∀ b ∈ A', b ∉ B := fun b hb z => by
              obtain ⟨⟨_, q1, q2⟩, _⟩ := m.ow i _ _ hi
              obtain ⟨_, u, e⟩ := q2.there b (by rw [hA]; exact List.mem_cons_of_mem _ hb)
              rw [nb b z] at e
              cases e
            have q : Own (gOf X) F' (upd H' a (.ins ((gOf X).ca c') dx ((cflds c').zip (ws ++ [v])))) (g.setKid vs.length s) (.ref a) (.obj c' (vs ++ [d])) (a :: (A' ++ B)) := by
              refine .obj (Shape.setKid_own go) upd_same fa ?_ (OwnAll.snoc (f := g.kid) (ob.keep (Keep.upd aB)) (oa.keep (Keep.upd na)) (fun j _ hj => ?_) ?_ AB) fun z => (List.mem_append.mp z).elim na aB
              · rw [List.length_append]
                have := (List.getElem?_eq_some_iff.mp hf).1
                simp only [List.length_cons, List.length_nil]
                omega
              · exact Shape.setKid_lt (by omega)
              · rw [Nat.zero_add, hl]
                exact Shape.setKid_at gf
            obtain ⟨fp', m2⟩ := m'.write hi hw ain q fun b hb => by
              rcases List.mem_cons.mp hb with z | z
              · exact .inl (by rw [hA, z]; exact List.mem_cons_self)
              · rcases List.mem_append.mp z with z | z
                · exact .inl (by rw [hA]; exact List.mem_cons_of_mem _ z)
                · refine .inr (.inr ⟨m.s0.free (nb b z), fun j ne t e h y => ?_⟩)
                  obtain ⟨⟨_, _, q2⟩, _⟩ := m.ow j t e h
                  obtain ⟨_, u, e⟩ := q2.there b y
                  rw [nb b z] at e
                  cases e
            exact o' fp' F' σ _ (Same.refl _) m2
      · exact o'.elim
    · exact o'.elim⟩
/-- self.f = e, shared -/
theorem rs_fldS (i c : Nat) {x : Str} (M : ClM X.K (gOf X).ca f c) (he : RE X W .S e fe) (hN : X.N[i]? = some x := by rfl) (hv : Vis X.env.scope x := by first | exact Or.inl rfl | exact Or.inr (Or.inl rfl)) (hd : (x == ("__debug__" : Str)) = false := by decide)
    (hcd : (x == ("__classdict__" : Str)) = false := by decide) (hs : swapsWith e (some (.Attribute (.Name x ps) f p')) pos.line X.env = pure false := by rfl) :
    RS X W k (.Assign [.Attribute (.Name x ps) f p'] e pos) (fun r => lift (fe r) r fun d => setF i c f .sh d r) :=
  rs_fldO i c M (re_shO he) hN hv hd hcd hs
end
end Mir
namespace Mir
open PySem PySem.Spec PyProof.Rows L2
variable [Tn]
noncomputable abbrev veT : List Value := [.type "ValueError", .type "Exception", .type "BaseException", .type "object"]
/-- an own error class without own __init__ -/
structure ExM0 (K : PySem.W.Frag) (mg : Str → Option Value) (C : Addr) (c : Nat) : Prop where
  gC : mg (cname c) = some (.ref C)
  ex : PySem.W.excIn K C veT "ValueError.__new__" = true
  kC : PySem.W.keepIn K (.ref C) = true
  sb : PySem.W.subIn K (.ref C) (.type "BaseException") = some true
  ty : PySem.W.typeIn K (.ref C) = some (.type "type")
  no : cflds c = []
theorem ca_of {G : GC} {c : Nat} {C : Addr} (h : G.mg (cname c) = some (.ref C)) : G.ca c = C := by
  unfold GC.ca
  rw [h]
section
variable {X : Cx} {W : Wi} {k : Kd} {C : Addr} {c : Nat} {x : Str} {p pos pos2 : Pos} {e : Expr} {es : List Expr}
/-- X() -/
theorem pmk_own0 (M : ExM0 X.K X.mg C c) (hx : x = cname c) (hg : Gl X x) (hdb : (x == ("__debug__" : Str)) = false) : PMk X (.Call (.Name x p) [] [] pos) (fun _ H Q => Q (.ref C) none H) := by
  subst hx
  intro pins s σ H Q I h
  refine wpAny_Call_Name_kw (ld_glob I hg M.gC ?_ hdb)
  refine PySem.W.callWith_K0 I.kIn M.kC ?_
  obtain ⟨bm, N, nm, qn, bs, hdct, sn, sub, ab, col, dd, k0, k1, k2, k3, k5, mN, hC, hN, hni, T⟩ := exc_obj I.kIn M.ex
  refine wpAny_call_exc_subT PySem.F.excBase_ValueError T hC hN hni (fun h' e hm => ?_) (Nat.zero_le _)
  exact L2N.mk_of I hm (raises_own M.sb M.ty) h (I.hok.gone hm.new)
theorem rs_raise0 (M : ExM0 X.K X.mg C c) (hc : X.calm = true) (tk : Takes X W.w) (hx : x = cname c := by rfl) (hg : Gl X x := by rfl) (hdb : (x == ("__debug__" : Str)) = false := by decide) :
    RS X W k (.Raise (some (.Call (.Name x p) [] [] pos)) none pos2) (fun r => .er (.exc c []) r) :=
  (ps_raise hc tk (pmk_own0 M hx hg hdb)).imp fun D σ H ⟨H0, F0, fp, F, r, m, o⟩ =>
    o fp F σ H _ _ (Same.refl _) m ⟨c, [], [], rfl, by rw [ca_of (G := gOf X) M.gC], .nil, .inl ⟨rfl, M.no, rfl⟩⟩
end
end Mir
namespace Mir
open PySem PySem.Spec PyProof.Rows L2
variable [Tn]
/-- the longest list that is looked after -/
noncomputable def lim : Nat := 1000000
theorem lim_le : lim ≤ sizeLine := by rw [sizeLine_eq]; decide
section
variable {G : GC} {F H F' H' : Hp} {v : V} {d : D}
theorem RdD.grow (h : RdD G F H v d) (g : Grow F H F' H') : RdD G F' H' v d := h.elim (fun r => .inl (r.mono g.f)) fun ⟨A, o⟩ => .inr ⟨A, o.grow g⟩
theorem RdD.int {i : Int} (h : RdD G F H v (.int i)) : v = .int i := by
  rcases h with h | ⟨A, h⟩ <;> cases h
  rfl
theorem RdD.bl {i : Bool} (h : RdD G F H v (.bl i)) : v = .bl i := by
  rcases h with h | ⟨A, h⟩ <;> cases h
  rfl
theorem RdD.str {i : Str} (h : RdD G F H v (.str i)) : v = .str i := by
  rcases h with h | ⟨A, h⟩ <;> cases h
  rfl
theorem RdD.non (h : RdD G F H v .non) : v = .non := by
  rcases h with h | ⟨A, h⟩ <;> cases h
  rfl
theorem RdD.lst {ds : List D} (s : Same F H) (h : RdD G F H v (.lst ds)) : ∃ a vs, v = .ref a ∧ H a = some (.lst vs) ∧ RepAll G F vs ds := by
  rcases h with h | ⟨A, h⟩
  · cases h with
    | lst e r => exact ⟨_, _, rfl, s _ _ e, r⟩
  · cases h with
    | lst _ e _ r _ => exact ⟨_, _, rfl, e, r.to_rep.2⟩
theorem RdD.tupS {ds : List D} (h : RdD G F H v (.tup ds)) : Rep G F v (.tup ds) := by
  rcases h with h | ⟨A, h⟩
  · exact h
  · cases h with
    | tup e => cases e
theorem RdD.tup {ds : List D} (s : Same F H) (h : RdD G F H v (.tup ds)) : ∃ a vs, v = .ref a ∧ SqT G.K H a vs ∧ RepAll G F vs ds := by
  cases h.tupS with
  | tup e r => exact ⟨_, _, rfl, Same.sqT s e, r⟩
theorem RdD.scr {ns : List Int} (s : Same F H) (h : RdD G F H v (.scr ns)) : ∃ a, v = .ref a ∧ SqL G.K H a (ns.map V.int) := by
  rcases h with h | ⟨A, h⟩
  · cases h with
    | scr e => exact ⟨_, rfl, s.seq e⟩
  · cases h
theorem RdD.obj {c : Nat} {vs : List D} (s : Same F H) (h : RdD G F H v (.obj c vs)) : ∃ a dx fs, v = .ref a ∧ H a = some (.ins (G.ca c) dx fs) := by
  rcases h with h | ⟨A, h⟩
  · cases h with
    | obj e _ _ => exact ⟨_, _, _, rfl, s _ _ e⟩
  · cases h with
    | obj _ e _ _ _ _ => exact ⟨_, _, _, rfl, e⟩
theorem RdD.dic {ks vs : List D} (s : Same F H) (h : RdD G F H v (.dic ks vs)) : ∃ a o xs ws, v = .ref a ∧ H a = some (.ext (isObj' a o)) ∧ (a == sysModules) = false ∧ DicO G o xs ∧ Vals ws (xs.map (·.2.2)) ∧ RepAll G F (xs.map fun x => V.ref x.2.1) ks ∧ ks.map keyOf = xs.map (fun x => some x.1) ∧ RepAll G F ws vs := by
  rcases h with h | ⟨A, h⟩
  · cases h with
    | dic e z1 z2 z3 z4 z5 r => exact ⟨_, _, _, _, rfl, s _ _ e, z1, z2, z3, z4, z5, r⟩
  · cases h with
    | dic _ e _ z1 z2 z3 z4 z5 r _ => exact ⟨_, _, _, _, rfl, e, z1, z2, z3, z4, z5, r.to_rep.2⟩
theorem RdD.dct {ks : List Key} {vs : List D} (s : Same F H) (h : RdD G F H v (.dct ks vs)) : ∃ a kvs, v = .ref a ∧ (H a = some (.dK kvs) ∨ KDct G a kvs) ∧ ks = kvs.map (·.1) ∧ RepAll G F (kvs.map (·.2)) vs := by
  rcases h with h | ⟨A, h⟩
  · cases h with
    | dct e z r => exact ⟨_, _, rfl, .inl (s _ _ e), z, r⟩
    | dctK e z r => exact ⟨_, _, rfl, .inr e, z, r⟩
  · cases h with
    | dct _ e _ z r _ => exact ⟨_, _, rfl, .inl e, z, r.to_rep.2⟩
theorem RdD.mix {ks vs : List D} {k : Key} {d : D} (s : Same F H) (h : RdD G F H v (.mix ks vs k d)) : ∃ a o xs ws u w, v = .ref a ∧ H a = some (.ext (isObj' a o)) ∧ (a == sysModules) = false ∧ MixO G o xs k u ∧ Vals ws (xs.map (·.2.2)) ∧ RepAll G F (xs.map fun x => V.ref x.2.1) ks ∧ ks.map keyOf = xs.map (fun x => some x.1) ∧ RepAll G F ws vs ∧ RelV w u ∧ Rep G F w d := by
  rcases h with h | ⟨A, h⟩
  · cases h with
    | mix e z1 z2 z3 z4 z5 r z6 z7 => exact ⟨_, _, _, _, _, _, rfl, s _ _ e, z1, z2, z3, z4, z5, r, z6, z7⟩
  · cases h with
    | mix _ e _ z1 z2 z3 z4 z5 r z6 z7 => exact ⟨_, _, _, _, _, _, rfl, e, z1, z2, z3, z4, z5, r, z6, z7⟩
theorem dk_any {X : Cx} {pins : List (Addr × Obj)} {σ : L2.St} {H : Hp} {s : Shared} {a : Addr} {kvs : List (Key × V)} (I : L2.Inv X pins σ H s) (h : H a = some (.dK kvs) ∨ KDct (gOf X) a kvs) : kvs.length ≤ sizeLine ∧ (a == sysModules) = false ∧ ∃ vs, KV kvs vs ∧ s.heap.DictOf (mixKind X.prog X.w) a vs := by
  rcases h with h | ⟨h1, h2, o, h3, h4⟩
  · exact dk_of I.hok h
  · exact ⟨h2, h1, h4 _ (I.kIn _ _ h3)⟩
/-- a new object, shared -/
theorem Grow.mk1 {p : Addr} {o : HO} (s : Same F H) (hp : H p = none) : Grow F H (upd F p o) (upd H p o) := Grow.of
  (fun b u q => by rw [upd_ne (ne_of_none q hp)]; exact q)
  (fun b u q => by rw [upd_ne (ne_of_none (s b u q) hp)]; exact q)
  (fun b u q => by
    by_cases hb : b = p
    · subst hb; rw [upd_same] at q ⊢; exact q
    · rw [upd_ne hb] at q ⊢; exact s b u q)
  (fun b u q => by
    by_cases hb : b = p
    · subst hb; exact .inr hp
    · rw [upd_ne hb] at q; exact .inl q)
/-- a new object, one's own -/
theorem Grow.own {p : Addr} {o : HO} (s : Same F H) (hp : H p = none) : Grow F H F (upd H p o) := Grow.of
  (fun b u q => by rw [upd_ne (ne_of_none q hp)]; exact q)
  (Same.refl _)
  (fun b u q => by rw [upd_ne (ne_of_none (s b u q) hp)]; exact s b u q)
  (fun b u q => .inl q)
end
noncomputable def toPy : D → Option PyData
  | .non => some .none
  | .bl b => some (.bool b)
  | .int i => some (.int i)
  | .str s => some (.str s)
  | .tup xs => (toPys xs).map .tuple
  | .lst xs => (toPys xs).map .list
  | _ => none
where toPys : List D → Option (List PyData)
  | [] => some []
  | x :: xs => match toPy x, toPys xs with
    | some p, some ps => some (p :: ps)
    | _, _ => none
mutual
theorem Rep.dp {G : GC} {F H : Hp} (s : Same F H) : ∀ {v : V} {d : D} {p : PyData}, Rep G F v d → toPy d = some p → Dp G.K H v p
  | _, _, _, .non, e => by simp only [toPy, Option.some.injEq] at e; subst e; exact .non
  | _, _, _, .bl b, e => by simp only [toPy, Option.some.injEq] at e; subst e; exact .bl b
  | _, _, _, .int i, e => by simp only [toPy, Option.some.injEq] at e; subst e; exact .int i
  | _, _, _, .str x, e => by simp only [toPy, Option.some.injEq] at e; subst e; exact .str x
  | _, _, _, .tup h r, e => by
    simp only [toPy, Option.map_eq_some_iff] at e
    obtain ⟨ps, e1, e2⟩ := e
    subst e2
    exact .tup (Same.sqT s h) (RepAll.dp s r e1)
  | _, _, _, .lst h r, e => by
    simp only [toPy, Option.map_eq_some_iff] at e
    obtain ⟨ps, e1, e2⟩ := e
    subst e2
    exact .lst (.of (s _ _ h)) (RepAll.dp s r e1)
  | _, _, _, .scr _, e => by simp [toPy] at e
  | _, _, _, .dic _ _ _ _ _ _ _, e => by simp [toPy] at e
  | _, _, _, .dct _ _ _, e => by simp [toPy] at e
  | _, _, _, .dctK _ _ _, e => by simp [toPy] at e
  | _, _, _, .mix .., e => by simp [toPy] at e
  | _, _, _, .opq, e => by simp [toPy] at e
  | _, _, _, .obj _ _ _, e => by simp [toPy] at e
  | _, _, _, .exc _ _, e => by simp [toPy] at e
  | _, _, _, .excF _ _ _ _, e => by simp [toPy] at e
  | _, _, _, .cls _, e => by simp [toPy] at e
  | _, _, _, .ty _, e => by simp [toPy] at e
theorem RepAll.dp {G : GC} {F H : Hp} (s : Same F H) : ∀ {vs : List V} {ds : List D} {ps : List PyData}, RepAll G F vs ds → toPy.toPys ds = some ps → DpAll G.K H vs ps
  | _, _, _, .nil, e => by simp only [toPy.toPys, Option.some.injEq] at e; subst e; exact .nil
  | _, _, _, .cons r t, e => by
    rw [toPy.toPys] at e
    split at e
    · rename_i p ps h1 h2
      cases e
      exact .cons (Rep.dp s r h1) (RepAll.dp s t h2)
    · cases e
end
theorem RdD.dp {G : GC} {F H : Hp} {v : V} {d : D} {p : PyData} (s : Same F H) (h : RdD G F H v d) (e : toPy d = some p) : Dp G.K H v p := by
  rcases h with h | ⟨A, h⟩
  · exact h.dp s e
  · cases h with
    | lst _ h _ r _ =>
      simp only [toPy, Option.map_eq_some_iff] at e
      obtain ⟨ps, e1, e2⟩ := e
      subst e2
      exact .lst (.of h) (r.to_rep.2.dp s e1)
    | tup z => cases z
    | dic => simp [toPy] at e
    | dct => simp [toPy] at e
    | mix => simp [toPy] at e
    | obj => simp [toPy] at e
noncomputable def addD : D → D → Res D
  | .int i, .int j => .ok (.int (i + j))
  | .str s, .str t => if s.length + t.length ≤ lim then .ok (.str (s ++ t)) else .bad
  | .tup xs, .tup ys => if xs.length + ys.length ≤ lim then .ok (.tup (xs ++ ys)) else .bad
  | .lst xs, .lst ys => if xs.length + ys.length ≤ lim then .ok (.lst (xs ++ ys)) else .bad
  | _, _ => .bad
noncomputable def subD : D → D → Res D
  | .int i, .int j => .ok (.int (i - j))
  | _, _ => .bad
/-- the bits of a number -/
noncomputable def bits (i : Int) : Nat := i.natAbs.log2
noncomputable instance (i j : Int) : Decidable (CMul i j) := by unfold CMul; infer_instance
noncomputable def mulD : D → D → Res D
  | .int i, .int j => if bits i + bits j < 1000000 ∨ CMul i j then .ok (.int (i * j)) else .bad
  | .lst xs, .int k => if k ≤ 1000 ∧ 0 ≤ k ∧ xs.length ≤ 1000 then .ok (.lst (List.replicate k.toNat xs).flatten) else .bad
  | .tup xs, .int k => if k ≤ 1000 ∧ 0 ≤ k ∧ xs.length ≤ 1000 then .ok (.tup (List.replicate k.toNat xs).flatten) else .bad
  | _, _ => .bad
noncomputable def modD : D → D → Res D
  | .int i, .int j => if 0 < j then .ok (.int (i % j)) else .bad
  | _, _ => .bad
noncomputable def divD : D → D → Res D
  | .int i, .int j => if 0 < j ∧ bits j < 9000 then .ok (.int (i / j)) else .bad
  | _, _ => .bad
noncomputable def powD : D → D → Res D
  | .int i, .int j => if 0 ≤ j ∧ j ≤ 1000000 ∧ i.natAbs < 2 ^ 64 then .ok (.int (i ^ j.toNat)) else .bad
  | _, _ => .bad
noncomputable def cmpD (p : Int → Int → Bool) : D → D → Res D
  | .int i, .int j => .ok (.bl (p i j))
  | _, _ => .bad
noncomputable def eqS (a b : D) : Res D := match toPy a, toPy b with
  | some p, some q => if SeqAt.shaped p = true ∧ SeqAt.shaped q = true then .ok (.bl (PyData.eqv p q)) else .bad
  | _, _ => .bad
noncomputable def neS (a b : D) : Res D := match toPy a, toPy b with
  | some p, some q => if SeqAt.shaped p = true ∧ SeqAt.shaped q = true then .ok (.bl (!PyData.eqv p q)) else .bad
  | _, _ => .bad
section
variable {X : Cx}
theorem opD_I {rr : R2} {op : D → D → Res D} (h : ∀ a b d, op a b = .ok d → ∃ i j r, a = .int i ∧ b = .int j ∧ (∀ F, Rep (gOf X) F r d) ∧ ∀ (H : Hp) (Q : VK), Q r H → rr (.int i) (.int j) H Q) : OpD (gOf X) rr .R .R .S op := fun F H x y a b d Q Ha Hb s ka kb e k => by
  obtain ⟨i, j, r, rfl, rfl, hr, q⟩ := h a b d e
  rw [RdD.int (show RdD _ _ _ x _ from ka), RdD.int (show RdD _ _ _ y _ from kb)]
  exact q H Q (k r F H (Grow.refl s) (hr F))
theorem sub_ok : OpD (gOf X) (rI0 fun i j => .int (i - j)) .R .R .S subD := opD_I fun a b d e => by
  unfold subD at e
  split at e <;> cases e
  exact ⟨_, _, _, rfl, rfl, fun F => .int _, fun H Q q => ⟨_, _, rfl, rfl, q⟩⟩
theorem mod_ok : OpD (gOf X) (rI (fun _ j => 0 < j) fun i j => .int (i % j)) .R .R .S modD := opD_I fun a b d e => by
  unfold modD at e
  split at e
  · split at e <;> cases e
    rename_i h
    exact ⟨_, _, _, rfl, rfl, fun F => .int _, fun H Q q => ⟨_, _, rfl, rfl, h, q⟩⟩
  · cases e
theorem div_ok : OpD (gOf X) (rI CDivW fun i j => .int (i / j)) .R .R .S divD := opD_I fun a b d e => by
  unfold divD at e
  split at e
  · split at e <;> cases e
    rename_i h
    exact ⟨_, _, _, rfl, rfl, fun F => .int _, fun H Q q => ⟨_, _, rfl, rfl, h, q⟩⟩
  · cases e
theorem pow_ok : OpD (gOf X) (rI CPow fun i j => .int (i ^ j.toNat)) .R .R .S powD := opD_I fun a b d e => by
  unfold powD at e
  split at e
  · split at e <;> cases e
    rename_i h
    exact ⟨_, _, _, rfl, rfl, fun F => .int _, fun H Q q => ⟨_, _, rfl, rfl, h, q⟩⟩
  · cases e
theorem cmp_ok {p : Int → Int → Bool} : OpD (gOf X) (rI0 fun i j => .bl (p i j)) .R .R .S (cmpD p) := opD_I fun a b d e => by
  unfold cmpD at e
  split at e <;> cases e
  exact ⟨_, _, _, rfl, rfl, fun F => .bl _, fun H Q q => ⟨_, _, rfl, rfl, q⟩⟩
theorem eq_ok : OpD (gOf X) (rEqD X.K) .R .R .S eqS := fun F H x y a b d Q Ha Hb s ka kb e k => by
  unfold eqS at e
  split at e
  · rename_i p q h1 h2
    split at e <;> cases e
    rename_i h
    exact ⟨p, q, RdD.dp s (show RdD (gOf X) F H x a from ka) h1, RdD.dp s (show RdD (gOf X) F H y b from kb) h2, h.1, h.2, k _ F H (Grow.refl s) (.bl _)⟩
  · cases e
theorem ne_ok : OpD (gOf X) (rNeD X.K) .R .R .S neS := fun F H x y a b d Q Ha Hb s ka kb e k => by
  unfold neS at e
  split at e
  · rename_i p q h1 h2
    split at e <;> cases e
    rename_i h
    exact ⟨p, q, RdD.dp s (show RdD (gOf X) F H x a from ka) h1, RdD.dp s (show RdD (gOf X) F H y b from kb) h2, h.1, h.2, k _ F H (Grow.refl s) (.bl _)⟩
  · cases e
noncomputable def rAddA (K : PySem.W.Frag) : R2 := fun x y H Q => (rI0 (fun i j => .int (i + j)) x y H Q ∨ ∃ i j, x = .str i ∧ y = .str j ∧ i.length + j.length ≤ sizeLine ∧ Q (.str (i ++ j)) H) ∨ (rCatA K x y H Q ∨ rCat x y H Q)
theorem op_addA : OpR X (binaryOp .Add) (rAddA X.K) := (op_add.or op_add_str).or (op_catA.or op_cat)
theorem add_ok : OpD (gOf X) (rAddA X.K) .R .R .S addD := fun F H x y a b d Q Ha Hb s ka kb e k => by
  have ka : RdD (gOf X) F H x a := ka
  have kb : RdD (gOf X) F H y b := kb
  unfold addD at e
  split at e
  · cases e
    exact .inl (.inl ⟨_, _, ka.int, kb.int, k _ F H (Grow.refl s) (.int _)⟩)
  · split at e <;> cases e
    rename_i h
    exact .inl (.inr ⟨_, _, ka.str, kb.str, Nat.le_trans h lim_le, k _ F H (Grow.refl s) (.str _)⟩)
  · split at e <;> cases e
    rename_i h
    obtain ⟨p, vs, rfl, h1, r1⟩ := ka.tup s
    obtain ⟨q, ws, rfl, h2, r2⟩ := kb.tup s
    refine .inr (.inl ⟨p, q, vs, ws, rfl, rfl, h1, h2, Nat.le_trans (by rw [r1.length, r2.length]; exact h) lim_le, fun z => ?_, fun _ z => ?_, fun _ _ t ht => ?_⟩)
    · subst z
      cases r1
      exact k _ F H (Grow.refl s) kb.tupS
    · subst z
      cases r2
      rw [List.append_nil] at k
      exact k _ F H (Grow.refl s) ka.tupS
    · exact k _ _ _ (Grow.mk1 s ht) (Rep.tup (.of upd_same) ((r1.append r2).mono (Grow.mk1 s ht).f))
  · split at e <;> cases e
    rename_i h
    obtain ⟨p, vs, rfl, h1, r1⟩ := ka.lst s
    obtain ⟨q, ws, rfl, h2, r2⟩ := kb.lst s
    exact .inr (.inr ⟨p, q, vs, ws, rfl, rfl, h1, h2, Nat.le_trans (by rw [r1.length, r2.length]; exact h) lim_le, fun t ht => k _ _ _ (Grow.mk1 s ht) (Rep.lst upd_same ((r1.append r2).mono (Grow.mk1 s ht).f))⟩)
  · cases e
theorem rep_all {G : GC} {F : Hp} {vs : List V} {ds : List D} (r : RepAll G F vs ds) : ∀ n : Nat, RepAll G F (List.replicate n vs).flatten (List.replicate n ds).flatten
  | 0 => .nil
  | n + 1 => by
    rw [List.replicate_succ, List.flatten_cons, List.replicate_succ, List.flatten_cons]
    exact r.append (rep_all r n)
theorem tuple_mulOne (l : Addr) (items : Array Value) (n : Nat) (dd : Option Addr) (sl : Array (Option Value)) (x : Int) (u : Tok) (c0 : (decide (x < -(2 ^ 63)) || decide (x ≥ 2 ^ 63)) = false) (c1 : (items.isEmpty || x == 1) = true) :
    Meets (Builtin.«tuple.__mul__» ⟨[.ref l, .int x u], []⟩) (fun _ R s => s.heap.get? l = some { cls := .type "tuple", dict := dd, data := .seq items n, slots := sl } ∧
      R (.ok (.ret (Value.ref l))) s) :=
  .of_wp fun prog w A R s h => by
    obtain ⟨hp, g, d, tk, os⟩ := s
    obtain ⟨hl, h⟩ := h
    have f1 := AutoSeq1.idx_int
    wp_walk using wpAny_loadPart' hl
    repeat (first
      | (refine wpAny_ite_false (decide_eq_false (by rw [c0]; exact Bool.false_ne_true)) ?_; wp_walk using wpAny_loadPart' hl)
      | (refine wpAny_ite_true (decide_eq_true (by rw [c1])) ?_; wp_walk using wpAny_loadPart' hl))
    exact ⟨_, rfl, h⟩
theorem tuple_mulNone (l : Addr) (items : Array Value) (n : Nat) (dd : Option Addr) (sl : Array (Option Value)) (x : Int) (u : Tok) (c0 : (decide (x < -(2 ^ 63)) || decide (x ≥ 2 ^ 63)) = false) (c1 : (items.isEmpty || x == 1) = false) (c2 : (decide (x ≤ 0) || items.isEmpty) = true) :
    Meets (Builtin.«tuple.__mul__» ⟨[.ref l, .int x u], []⟩) (fun _ R s => s.heap.get? l = some { cls := .type "tuple", dict := dd, data := .seq items n, slots := sl } ∧
      R (.ok (.ret (Value.ref s.heap.objs.size))) { s with heap := s.heap.push { cls := Value.type "tuple", data := Data.seq #[] }, toks := s.toks }) :=
  .of_wp fun prog w A R s h => by
    obtain ⟨hp, g, d, tk, os⟩ := s
    obtain ⟨hl, h⟩ := h
    have f1 := AutoSeq1.idx_int
    wp_walk using wpAny_loadPart' hl
    repeat (first
      | (refine wpAny_ite_false (decide_eq_false (by rw [c0]; exact Bool.false_ne_true)) ?_; wp_walk using wpAny_loadPart' hl)
      | (refine wpAny_ite_false (decide_eq_false (by rw [c1]; exact Bool.false_ne_true)) ?_; wp_walk using wpAny_loadPart' hl)
      | (refine wpAny_ite_true (decide_eq_true (by rw [c2])) ?_; wp_walk using wpAny_loadPart' hl))
    exact ⟨_, rfl, h⟩
noncomputable def rRepT1 (K : PySem.W.Frag) : R2 := fun x y H Q => ∃ l k xs, x = .ref l ∧ y = .int k ∧ SqT K H l xs ∧ (xs = [] ∨ k = 1) ∧ 0 ≤ k ∧ k ≤ 1000 ∧ Q (.ref l) H
noncomputable def rRepT0 (K : PySem.W.Frag) : R2 := fun x y H Q => ∃ l xs, x = .ref l ∧ y = .int 0 ∧ SqT K H l xs ∧ xs ≠ [] ∧ ∀ p, H p = none → Q (.ref p) (upd H p (.tup []))
theorem op_repT1 {X : Cx} : OpR X (binaryOp .Mult) (rRepT1 X.K) := by
  intro pins s σ H x y v u Q I rx ry h
  obtain ⟨l, k, xs, rfl, rfl, hT, hne, h1, h2, q⟩ := h
  cases rx
  obtain ⟨t, rfl⟩ := ry
  obtain ⟨its, r, ⟨⟨cls, dd, data, sl⟩, ho, hc, n, hd⟩, hs⟩ := I.tuple hT
  simp only at hc hd
  subst hc hd
  have hle : its.length = xs.length := r.length.symm
  have c0 : (decide (k < -(2 ^ 63)) || decide (k ≥ 2 ^ 63)) = false := by
    rw [decide_eq_false (by omega), decide_eq_false (by omega)] <;> rfl
  have c1 : (its.toArray.isEmpty || k == 1) = true := by
    rcases hne with rfl | rfl
    · have : its = [] := List.eq_nil_of_length_eq_zero hle
      subst this
      rfl
    · simp
  refine wpAny_binaryOp_repeat_ref (T := "tuple") (U := "int") (by decide) ⟨_, ho, rfl⟩ (fun s' => typeIs_int s' k t) noFill_tuple_mul F.fills_int_mul F.slot_int_rmul repeat_tuple F.slot_int_index.lookup
    (call_meets F.slot_int_rmul (typeIs_int s k t) F.entry_int_rmul (F.args_int_rmul_2 _ _) (int_rmul_tuple k t l its.toArray n dd sl)
      ⟨ho, rfl, ⟨_, ho, rfl⟩, call_meets F.slot_tuple_mul ⟨_, ho, rfl⟩ F.entry_tuple_mul (F.args_tuple_mul_2 _ _) (tuple_mulOne l its.toArray n dd sl k t c0 c1) ⟨ho, ?_⟩⟩)
  exact ⟨.ref l, _, I, rfl, q⟩
theorem op_repT0 {X : Cx} : OpR X (binaryOp .Mult) (rRepT0 X.K) := by
  intro pins s σ H x y v u Q I rx ry h
  obtain ⟨l, xs, rfl, rfl, hT, hne, q⟩ := h
  cases rx
  obtain ⟨t, rfl⟩ := ry
  obtain ⟨its, r, ⟨⟨cls, dd, data, sl⟩, ho, hc, n, hd⟩, hs⟩ := I.tuple hT
  simp only at hc hd
  subst hc hd
  have hle : its.length = xs.length := r.length.symm
  have hn : its ≠ [] := fun e => hne (by
    rw [e] at hle
    exact List.eq_nil_of_length_eq_zero hle.symm)
  have hi : its.toArray.isEmpty = false := by
    cases its with
    | nil => exact absurd rfl hn
    | cons a b => rfl
  have c0 : (decide ((0 : Int) < -(2 ^ 63)) || decide ((0 : Int) ≥ 2 ^ 63)) = false := by decide
  have c1 : (its.toArray.isEmpty || (0 : Int) == 1) = false := by rw [hi]; rfl
  have c2 : (decide ((0 : Int) ≤ 0) || its.toArray.isEmpty) = true := by simp
  refine wpAny_binaryOp_repeat_ref (T := "tuple") (U := "int") (by decide) ⟨_, ho, rfl⟩ (fun s' => typeIs_int s' 0 t) noFill_tuple_mul F.fills_int_mul F.slot_int_rmul repeat_tuple F.slot_int_index.lookup
    (call_meets F.slot_int_rmul (typeIs_int s 0 t) F.entry_int_rmul (F.args_int_rmul_2 _ _) (int_rmul_tuple 0 t l its.toArray n dd sl)
      ⟨ho, rfl, ⟨_, ho, rfl⟩, call_meets F.slot_tuple_mul ⟨_, ho, rfl⟩ F.entry_tuple_mul (F.args_tuple_mul_2 _ _) (tuple_mulNone l its.toArray n dd sl 0 t c0 c1 c2) ⟨ho, ?_⟩⟩)
  refine ⟨.ref s.heap.objs.size, _, I.laid (t' := s.toks) (o := .tup []) (fun b ob q => Heap.get?_push_of_some _ q) (Nat.le_refl _) ?_, rfl, q _ (I.hok.fresh (Nat.le_refl _))⟩
  exact ⟨by rw [sizeLine_eq]; simp, [], .nil, IsTup.new _ _⟩
noncomputable def rMulA (K : PySem.W.Frag) : R2 := fun x y H Q => (rI CMulW (fun i j => .int (i * j)) x y H Q ∨ rI CMul (fun i j => .int (i * j)) x y H Q) ∨ (rRep x y H Q ∨ (rRepT K x y H Q ∨ (rRepT1 K x y H Q ∨ rRepT0 K x y H Q)))
theorem op_mulA : OpR X (binaryOp .Mult) (rMulA X.K) := (op_mulW.or op_mul).or (op_rep.or (op_repT.or (op_repT1.or op_repT0)))
theorem mul_ok : OpD (gOf X) (rMulA X.K) .R .R .S mulD := fun F H x y a b d Q Ha Hb s ka kb e k => by
  have ka : RdD (gOf X) F H x a := ka
  have kb : RdD (gOf X) F H y b := kb
  unfold mulD at e
  split at e
  · split at e <;> cases e
    rename_i h
    rcases h with h | h
    · exact .inl (.inl ⟨_, _, ka.int, kb.int, h, k _ F H (Grow.refl s) (.int _)⟩)
    · exact .inl (.inr ⟨_, _, ka.int, kb.int, h, k _ F H (Grow.refl s) (.int _)⟩)
  · split at e <;> cases e
    rename_i h
    obtain ⟨p, vs, rfl, h1, r1⟩ := ka.lst s
    refine .inr (.inl ⟨p, _, vs, rfl, kb.int, h1, by omega, by omega, ?_, fun t ht => k _ _ _ (Grow.mk1 s ht) (Rep.lst upd_same ((rep_all r1 _).mono (Grow.mk1 s ht).f))⟩)
    rw [sizeLine_eq, r1.length]
    exact Nat.le_trans (Nat.mul_le_mul h.2.2 (show _ ≤ 1000 by omega)) (by decide)
  · split at e <;> cases e
    rename_i h
    obtain ⟨p, vs, rfl, h1, r1⟩ := ka.tup s
    rename_i xs0 k0 _ _
    by_cases e0 : vs = []
    · subst e0
      cases r1
      refine .inr (.inr (.inr (.inl ⟨p, _, [], rfl, kb.int, h1, .inl rfl, by omega, by omega, k _ F H (Grow.refl s) ?_⟩)))
      rw [show (List.replicate (Int.toNat _) ([] : List D)).flatten = [] by simp]
      exact (RdD.tupS ka)
    · by_cases e1 : k0 = 1
      · subst e1
        refine .inr (.inr (.inr (.inl ⟨p, _, vs, rfl, kb.int, h1, .inr rfl, by omega, by omega, k _ F H (Grow.refl s) ?_⟩)))
        rw [show (List.replicate (Int.toNat 1) xs0).flatten = xs0 by simp]
        exact (RdD.tupS ka)
      · by_cases e2 : k0 = 0
        · subst e2
          refine .inr (.inr (.inr (.inr ⟨p, vs, rfl, kb.int, h1, e0, fun t ht => k _ _ _ (Grow.mk1 s ht) ?_⟩)))
          rw [show (List.replicate (Int.toNat 0) xs0).flatten = ([] : List D) by simp]
          exact Rep.tup (.of upd_same) .nil
        · refine .inr (.inr (.inl ⟨p, _, vs, rfl, kb.int, h1, e0, by omega, by omega, by rw [r1.length]; omega, fun t ht => k _ _ _ (Grow.mk1 s ht) (Rep.tup (.of upd_same) ((rep_all r1 _).mono (Grow.mk1 s ht).f))⟩))
  · cases e
end
theorem ne_add : NoEr2 addD := fun a b e z => by unfold addD at z; split at z <;> (try split at z) <;> cases z
theorem ne_sub : NoEr2 subD := fun a b e z => by unfold subD at z; split at z <;> cases z
theorem ne_mul : NoEr2 mulD := fun a b e z => by unfold mulD at z; split at z <;> (try split at z) <;> cases z
theorem ne_mod : NoEr2 modD := fun a b e z => by unfold modD at z; split at z <;> (try split at z) <;> cases z
theorem ne_div : NoEr2 divD := fun a b e z => by unfold divD at z; split at z <;> (try split at z) <;> cases z
theorem ne_pow : NoEr2 powD := fun a b e z => by unfold powD at z; split at z <;> (try split at z) <;> cases z
theorem ne_cmp {p : Int → Int → Bool} : NoEr2 (cmpD p) := fun a b e z => by unfold cmpD at z; split at z <;> cases z
theorem ne_eq : NoEr2 eqS := fun a b e z => by unfold eqS at z; split at z <;> (try split at z) <;> cases z
theorem ne_ne : NoEr2 neS := fun a b e z => by unfold neS at z; split at z <;> (try split at z) <;> cases z
section
variable {X : Cx} {W : Wi} {k : Nat} {a b c : Expr} {fa fb fc : Env → Res D} {pos : Pos}
theorem re_add (ha : RE X W .R a fa) (hb : RE X W .R b fb) : RE X W .S (.BinOp a .Add b pos) (fun r => fa r >>= fun x => fb r >>= fun y => addD x y) := re_op op_addA add_ok ne_add ha hb
theorem re_sub (ha : RE X W .R a fa) (hb : RE X W .R b fb) : RE X W .S (.BinOp a .Sub b pos) (fun r => fa r >>= fun x => fb r >>= fun y => subD x y) := re_op op_sub sub_ok ne_sub ha hb
theorem re_mul (ha : RE X W .R a fa) (hb : RE X W .R b fb) : RE X W .S (.BinOp a .Mult b pos) (fun r => fa r >>= fun x => fb r >>= fun y => mulD x y) := re_op op_mulA mul_ok ne_mul ha hb
theorem re_mod (ha : RE X W .R a fa) (hb : RE X W .R b fb) : RE X W .S (.BinOp a .Mod b pos) (fun r => fa r >>= fun x => fb r >>= fun y => modD x y) := re_op op_mod mod_ok ne_mod ha hb
theorem re_div (ha : RE X W .R a fa) (hb : RE X W .R b fb) : RE X W .S (.BinOp a .FloorDiv b pos) (fun r => fa r >>= fun x => fb r >>= fun y => divD x y) := re_op op_fdivW div_ok ne_div ha hb
theorem re_pow (ha : RE X W .R a fa) (hb : RE X W .R b fb) : RE X W .S (.BinOp a .Pow b pos) (fun r => fa r >>= fun x => fb r >>= fun y => powD x y) := re_op op_pow pow_ok ne_pow ha hb
noncomputable def ltD : D → D → Res D := cmpD fun i j => decide (i < j)
noncomputable def leD : D → D → Res D := cmpD fun i j => decide (i ≤ j)
noncomputable def gtD : D → D → Res D := cmpD fun i j => decide (j < i)
noncomputable def geD : D → D → Res D := cmpD fun i j => decide (j ≤ i)
noncomputable def asB : D → Res Bool
  | .bl b => .ok b
  | _ => .bad
/-- what a comparison by its sign is worth -/
structure Cmp (X : Cx) (o : CmpOp) (op : D → D → Res D) : Prop where
  ex : ∃ rr : R2, OpR X (compareOp o) rr ∧ OpD (gOf X) rr .R .R .S op
  ne : NoEr2 op
theorem c_lt : Cmp X .Lt ltD := ⟨⟨_, op_lt, cmp_ok⟩, ne_cmp⟩
theorem c_le : Cmp X .LtE leD := ⟨⟨_, op_le, cmp_ok⟩, ne_cmp⟩
theorem c_gt : Cmp X .Gt gtD := ⟨⟨_, op_gt, cmp_ok⟩, ne_cmp⟩
theorem re_cp {o : CmpOp} {op : D → D → Res D} (C : Cmp X o op) (ha : RE X W .R a fa) (hb : RE X W .R b fb) (hm : behindInMarks o b = false := by first | exact nomark _ | rfl) : RE X W .S (.Compare a [o] [b] pos) (fun r => fa r >>= fun x => fb r >>= fun y => op x y) :=
  let ⟨_, h1, h2⟩ := C.ex
  re_cmp h1 h2 C.ne ha hb hm
theorem asB_er {d e : D} (h : asB d = .er e) : False := by unfold asB at h; split at h <;> cases h
/-- a truth as a test -/
theorem tB_of {t : TE} {f : Env → Res D} {G : GC} (σ : L2.St) (H : Hp) (Q : Bool → Hp → Prop) (i : ∀ R : VK, tE G W .S f σ H R → t σ H R) (h : tT G W (fun r => f r >>= asB) σ H Q) : tTest t σ H Q := by
  obtain ⟨H0, F0, fp, F, r, m, o⟩ := h
  refine i _ ⟨H0, F0, fp, F, r, m, o.bind fun F' H' d gr o2 v kv => ?_⟩
  cases e : asB d with
  | ok b =>
    rw [e] at o2
    unfold asB at e
    split at e <;> cases e
    cases kv
    exact ⟨b, rfl, o2 F' H' (Grow.refl gr.sub)⟩
  | er x => exact (asB_er e).elim
  | bad => rw [e] at o2; exact o2.elim
theorem rt_cp {o : CmpOp} {op : D → D → Res D} (C : Cmp X o op) (ha : RE X W .R a fa) (hb : RE X W .R b fb) (hm : behindInMarks o b = false := by first | exact nomark _ | rfl) : RT X W (.Compare a [o] [b] pos) (fun r => (fa r >>= fun x => fb r >>= fun y => op x y) >>= asB) :=
  let ⟨_, h1, h2⟩ := C.ex
  (pt_cmpR h1 ha hb hm).imp fun σ H Q h => tB_of σ H Q (fun R t => t_op h2 C.ne σ H R t) h
/-- an expression that is True or False as a test -/
theorem rt_val (ha : RE X W .S a fa) (he : ∀ whole, isTrue a X.env whole = (do let v ← whole; standAt a.pos; holding [v] (truthy v)) := by intro _; rfl) : RT X W a (fun r => fa r >>= asB) :=
  (pt_val ha he).imp fun σ H Q h => tB_of σ H Q (fun R t => t) h
theorem rt_not {f : Env → Res Bool} (ha : RT X W a f) : RT X W (.UnaryOp .Not a pos) (fun r => f r >>= fun t => .ok (!t)) :=
  (pt_not ha).imp fun σ H Q ⟨H0, F0, fp, F, r, m, o⟩ => ⟨H0, F0, fp, F, r, m, o.bind fun F' H' t gr o2 => o2 F' H' (Grow.refl gr.sub)⟩
noncomputable abbrev RW (X : Cx) (W : Wi) (e : Expr) (f : Env → Res Bool) : Prop := PW X e (tT (gOf X) W f)
theorem rt_pw {f : Env → Res Bool} (h : RW X W a f) : RT X W a f := h.pt
theorem rw_and1 {f : Env → Res Bool} (ha : RT X W a f) : RW X W (.BoolOp .And [a] pos) f := pw_and1 ha
theorem rw_or1 {f : Env → Res Bool} (ha : RT X W a f) : RW X W (.BoolOp .Or [a] pos) f := pw_or1 ha
theorem rw_and {rest : List Expr} {f g : Env → Res Bool} (ha : RT X W a f) (hb : RW X W (.BoolOp .And (b :: rest) pos) g) : RW X W (.BoolOp .And (a :: b :: rest) pos) (fun r => f r >>= fun t => if t = true then g r else .ok false) :=
  (pw_and ha hb).imp fun σ H Q ⟨H0, F0, fp, F, r, m, o⟩ => ⟨H0, F0, fp, F, r, m, o.bind fun F' H' t gr o2 => by
    cases t with
    | true => exact ⟨H0, F0, fp, F', r, m.grow gr, o2⟩
    | false => exact o2 F' H' (Grow.refl gr.sub)⟩
theorem rw_or {rest : List Expr} {f g : Env → Res Bool} (ha : RT X W a f) (hb : RW X W (.BoolOp .Or (b :: rest) pos) g) : RW X W (.BoolOp .Or (a :: b :: rest) pos) (fun r => f r >>= fun t => if t = true then .ok true else g r) :=
  (pw_or ha hb).imp fun σ H Q ⟨H0, F0, fp, F, r, m, o⟩ => ⟨H0, F0, fp, F, r, m, o.bind fun F' H' t gr o2 => by
    cases t with
    | true => exact o2 F' H' (Grow.refl gr.sub)
    | false => exact ⟨H0, F0, fp, F', r, m.grow gr, o2⟩⟩
theorem re_one {op : BoolOp} (h : RE X W .S a fa) : RE X W .S (.BoolOp op [a] pos) fa := pe_one h
theorem re_and {rest : List Expr} (ha : RE X W .S a fa) (hb : RE X W .S (.BoolOp .And (b :: rest) pos) fb) : RE X W .S (.BoolOp .And (a :: b :: rest) pos) (fun r => (fa r >>= asB) >>= fun t => if t = true then fb r else .ok (.bl false)) :=
  (pe_and ha hb).imp fun σ H Q ⟨H0, F0, fp, F, r, m, o⟩ => by
    have z := tB_of (t := tE (gOf X) W .S fa) (f := fa) σ H (fun t H1 => if t = true then tE (gOf X) W .S fb σ H1 Q else Q (.bl false) H1) (fun R t => t) ⟨H0, F0, fp, F, r, m, o.bind fun F' H' t gr o2 => by
      cases t with
      | true => rw [if_pos rfl] at o2 ⊢; exact ⟨H0, F0, fp, F', r, m.grow gr, o2.imp fun F2 H2 d g2 p v kv => p v kv⟩
      | false => exact o2 F' H' (Grow.refl gr.sub) _ (Rep.bl false)⟩
    exact z
theorem re_not (ha : RE X W .S a fa) : RE X W .S (.UnaryOp .Not a pos) (fun r => (fa r >>= asB) >>= fun t => .ok (.bl (!t))) :=
  (pe_not ha).imp fun σ H Q ⟨H0, F0, fp, F, r, m, o⟩ => by
    have z := tB_of (t := tE (gOf X) W .S fa) (f := fa) σ H (fun t H1 => Q (.bl (!t)) H1) (fun R t => t) ⟨H0, F0, fp, F, r, m, o.bind fun F' H' t gr o2 => o2 F' H' (Grow.refl gr.sub) _ (Rep.bl _)⟩
    exact z
@[simp] noncomputable def negD : D → Res D
  | .int i => .ok (.int (-i))
  | _ => .bad
theorem re_neg (ha : RE X W .R a fa) : RE X W .S (.UnaryOp .USub a pos) (fun r => fa r >>= negD) :=
  (pe_un un_neg ha).imp fun σ H Q ⟨H0, F0, fp, F, r, m, o⟩ => ⟨H0, F0, fp, F, r, m, o.bind fun F' H' d gr o2 v kv => by
    cases d with
    | int i => exact ⟨i, RdD.int kv, o2 F' H' (Grow.refl gr.sub) _ (Rep.int _)⟩
    | _ => exact o2.elim⟩
end
end Mir
namespace Mir
open PySem PySem.Spec PyProof.Rows L2
variable [Tn]
noncomputable def ixS : D → D → Res D
  | .lst xs, .int i => match atI xs i with
    | some d => .ok d
    | none => .bad
  | .tup xs, .int i => match atI xs i with
    | some d => .ok d
    | none => .bad
  | .scr ns, .int i => match atI ns i with
    | some n => .ok (.int n)
    | none => .bad
  | .str z, .int i => if z.length ≤ lim then (match atI z.cps.toList i with
    | some c => .ok (.str ⟨#[c]⟩)
    | none => .bad) else .bad
  | _, _ => .bad
theorem atI_rep {G : GC} {F : Hp} {vs : List V} {ds : List D} {i : Int} {d : D} (r : RepAll G F vs ds) (h : atI ds i = some d) : ∃ v, atI vs i = some v ∧ Rep G F v d := by
  unfold atI at h ⊢
  rw [r.length]
  cases e : ixN ds.length i with
  | none => rw [e] at h; cases h
  | some j =>
    rw [e] at h
    exact r.get h
theorem atI_map {ns : List Int} {i n : Int} (h : atI ns i = some n) : atI (ns.map V.int) i = some (.int n) := by
  unfold atI at h ⊢
  rw [List.length_map]
  cases e : ixN ns.length i with
  | none => rw [e] at h; cases h
  | some j =>
    rw [e] at h
    show (ns.map V.int)[j]? = _
    rw [List.getElem?_map, show ns[j]? = some n from h]
    rfl
section
variable {X : Cx} {W : Wi} {k : Nat} {a b c e : Expr} {es : List Expr} {fa fb fc fe : Env → Res D} {p pos apos cpos : Pos}
theorem ix_ok : OpD (gOf X) (rIx X.K) .R .R .S ixS := fun F H x y a b d Q Ha Hb s ka kb e k => by
  have ka : RdD (gOf X) F H x a := ka
  have kb : RdD (gOf X) F H y b := kb
  unfold ixS at e
  split at e
  · split at e <;> cases e
    rename_i h
    obtain ⟨q, vs, rfl, h1, r1⟩ := ka.lst s
    obtain ⟨v, hv, rv⟩ := atI_rep r1 h
    exact .inl ⟨q, vs, _, v, rfl, kb.int, .of h1, hv, k _ F H (Grow.refl s) rv⟩
  · split at e <;> cases e
    rename_i h
    obtain ⟨q, vs, rfl, h1, r1⟩ := ka.tup s
    obtain ⟨v, hv, rv⟩ := atI_rep r1 h
    exact .inr (.inl ⟨q, vs, _, v, rfl, kb.int, h1, hv, k _ F H (Grow.refl s) rv⟩)
  · split at e <;> cases e
    rename_i h
    obtain ⟨q, rfl, h1⟩ := ka.scr s
    exact .inl ⟨q, _, _, _, rfl, kb.int, h1, atI_map h, k _ F H (Grow.refl s) (.int _)⟩
  · split at e
    · rename_i hl
      split at e <;> cases e
      rename_i h
      exact .inr (.inr ⟨_, _, _, ka.str, kb.int, Nat.le_trans hl lim_le, h, k _ F H (Grow.refl s) (.str _)⟩)
    · cases e
  · cases e
theorem ne_ix : NoEr2 ixS := fun a b e z => by
  unfold ixS at z
  split at z
  · split at z <;> cases z
  · split at z <;> cases z
  · split at z <;> cases z
  · split at z
    · split at z <;> cases z
    · cases z
  · cases z
noncomputable def cutD (xs : List D) (lo hi : Option Int) : List D := (xs.drop (HT.sIx xs.length 0 lo)).take (HT.sIx xs.length xs.length hi - HT.sIx xs.length 0 lo)
@[simp] noncomputable def asI : D → Res Int
  | .int i => .ok i
  | _ => .bad
noncomputable def sliceD (d : D) (lo hi : Option Int) : Res D := match d with
  | .lst xs => .ok (.lst (cutD xs lo hi))
  | .tup xs => .ok (.tup (cutD xs lo hi))
  | .str z => if z.length ≤ lim then .ok (.str (cutS z lo hi)) else .bad
  | _ => .bad
theorem PO.imp {X : Cx} {e : Option Expr} {t t' : TO} (h : PO X e t) (i : ∀ σ H Q, t' σ H Q → t σ H Q) : PO X e t' := ⟨fun pins s σ H Q I hw => h.run pins s σ H Q I (i σ H Q hw)⟩
theorem re_tup {x1} {f : Env → Res (List D)} (ha : RA X W es f) : RE X W .S (.Tuple es x1 pos) (fun r => f r >>= fun ds => if ds.length ≤ lim then .ok (.tup ds) else .bad) :=
  (pe_tup ha).imp fun σ H Q ⟨H0, F0, fp, F, r, m, o⟩ => ⟨H0, F0, fp, F, r, m, o.bind fun F' H' ds gr o2 vs rv => by
    split at o2
    · rename_i h
      exact ⟨Nat.le_trans (by rw [rv.length]; exact h) lim_le, fun t ht => o2 _ _ (Grow.mk1 gr.sub ht) _ (Rep.tup (.of upd_same) (rv.mono (Grow.mk1 gr.sub ht).f))⟩
    · exact o2.elim⟩
theorem re_lst {f : Env → Res (List D)} (ha : RA X W es f) : RE X W (.O .flat) (.List es pos) (fun r => f r >>= fun ds => if ds.length ≤ lim then .ok (.lst ds) else .bad) :=
  (pe_lst ha).imp fun σ H Q ⟨H0, F0, fp, F, r, m, o⟩ => ⟨H0, F0, fp, F, r, m, o.bind fun F' H' ds gr o2 vs rv => by
    split at o2
    · rename_i h
      exact ⟨Nat.le_trans (by rw [rv.length]; exact h) lim_le, fun t ht => o2 _ _ (Grow.own gr.sub ht) _ ⟨[t], Own.lst rfl upd_same (gr.sub.free ht) (OwnAll.of_rep rv) (by simp), fun a ha => by rw [List.mem_singleton.mp ha]; exact gr.h.free ht⟩⟩
    · exact o2.elim⟩
end
end Mir
namespace Mir
open PySem PySem.Spec PyProof.Rows L2
variable [Tn]
inductive RdAll (G : GC) (F H : Hp) : List V → List D → Prop
  | nil : RdAll G F H [] []
  | cons {v : V} {d : D} {vs : List V} {ds : List D} : RdD G F H v d → RdAll G F H vs ds → RdAll G F H (v :: vs) (d :: ds)
noncomputable def tAR (G : GC) (W : Wi) (f : Env → Res (List D)) : TA := fun σ H Q => ∃ H0 F0 fp F r, MS G W.J H0 F0 fp F σ H r ∧ Out G W σ F H (fun F' H' ds => ∀ vs, RdAll G F' H' vs ds → Q vs H') (f r)
/-- arguments to be read -/
noncomputable abbrev RAR (X : Cx) (W : Wi) (es : List Expr) (f : Env → Res (List D)) : Prop := PA X es (tAR (gOf X) W f)
noncomputable def CalD (G : GC) (rr : List V → Hp → VK → Prop) (k : Kd) (op : List D → Res D) : Prop := ∀ (F H : Hp) (vs : List V) (ds : List D) (d : D) (Q : VK), Same F H → RdAll G F H vs ds → op ds = .ok d → (∀ v F' H', Grow F H F' H' → k.Rep G H F' H' v d → Q v H') → rr vs H Q
noncomputable def NoErL (op : List D → Res D) : Prop := ∀ ds e, op ds ≠ .er e
/-- a built-in by its name -/
structure BlM (X : Cx) (x : Str) (k : Kd) (op : List D → Res D) : Prop where
  mg : X.mg x = none
  ex : ∃ rr : List V → Hp → VK → Prop, CalD (gOf X) rr k op ∧ ((∃ id, bootBuiltins x = some (.builtin id) ∧ CallR X (.builtin id) rr) ∨ ∃ T, bootBuiltins x = some (.type T) ∧ CallR X (.type T) rr)
  ne : NoErL op
  n1 : x ≠ "__name__"
  n2 : (x == ("__debug__" : Str)) = false
section
variable {X : Cx} {W : Wi} {k : Kd} {e : Expr} {es : List Expr} {fe : Env → Res D} {p pos : Pos}
theorem rar_nil : RAR X W [] (fun _ => .ok []) := pa_nil.imp fun σ H Q ⟨H0, F0, fp, F, r, m, o⟩ => o F H (Grow.refl m.sub) [] .nil
theorem RdAll.grow {G : GC} {F H F' H' : Hp} (g : Grow F H F' H') : ∀ {vs : List V} {ds : List D}, RdAll G F H vs ds → RdAll G F' H' vs ds
  | _, _, .nil => .nil
  | _, _, .cons r t => .cons (r.grow g) (RdAll.grow g t)
theorem rar_cons {g : Env → Res (List D)} (he : RE X W .R e fe) (hr : RAR X W es g) (hs : starEach (e :: es) X.env = (false, eval e X.env) :: starEach es X.env := by rfl) :
    RAR X W (e :: es) (fun r => fe r >>= fun d => g r >>= fun ds => .ok (d :: ds)) :=
  (pa_cons he hr hs).imp fun σ H Q ⟨H0, F0, fp, F, r, m, o⟩ => ⟨H0, F0, fp, F, r, m, o.bind fun F1 H1 d g1 o1 v kv =>
    ⟨H0, F0, fp, F1, r, m.grow g1, o1.bind fun F2 H2 ds g2 o2 vs rv => o2 F2 H2 (Grow.refl g2.sub) (v :: vs) (.cons (RdD.grow kv g2) rv)⟩⟩
theorem t_bl {rr : List V → Hp → VK → Prop} {op : List D → Res D} (h : CalD (gOf X) rr k op) (ne : NoErL op) {fa : Env → Res (List D)} (σ : L2.St) (H : Hp) (Q : VK) (t : tE (gOf X) W k (fun r => fa r >>= op) σ H Q) : tCB rr (tAR (gOf X) W fa) σ H Q := by
  obtain ⟨H0, F0, fp, F, r, m, o⟩ := t
  refine ⟨H0, F0, fp, F, r, m, o.bind fun F' H' ds gr o2 vs rv => ?_⟩
  cases z : op ds with
  | ok d =>
    rw [z] at o2
    exact h F' H' vs ds d Q gr.sub rv z fun v F2 H2 g kv => o2 F2 H2 g v (kv.later gr.h.fre)
  | er x => exact (ne _ _ z).elim
  | bad => rw [z] at o2; exact o2.elim
theorem re_blt {x : Str} {op : List D → Res D} {fa : Env → Res (List D)} (B : BlM X x k op) (ha : RAR X W (e :: es) fa) (hg : Gl X x := by rfl) (he : starEach (e :: es) X.env = (false, eval e X.env) :: starEach es X.env := by rfl) (hpl : (backTo pos (starEach es X.env)).any (·.1) = false := by rfl) :
    RE X W k (.Call (.Name x p) (e :: es) [] pos) (fun r => fa r >>= op) := by
  obtain ⟨rr, hc, ⟨id, hv, hr⟩ | ⟨T, hv, hr⟩⟩ := B.ex
  · exact (pe_callB hr hg B.mg hv ha B.n1 B.n2 he hpl).imp (t_bl hc B.ne)
  · exact (pe_callTy hr hg B.mg hv ha B.n1 B.n2 he hpl).imp (t_bl hc B.ne)
theorem BlM.b {x : Str} {id : String} {rr : List V → Hp → VK → Prop} {op : List D → Res D} (hm : X.mg x = none) (hv : bootBuiltins x = some (.builtin id)) (hr : CallR X (.builtin id) rr) (ne : NoErL op) (c : CalD (gOf X) rr k op) (n1 : x ≠ "__name__" := by decide) (n2 : (x == ("__debug__" : Str)) = false := by decide) : BlM X x k op :=
  ⟨hm, ⟨rr, c, .inl ⟨id, hv, hr⟩⟩, ne, n1, n2⟩
theorem BlM.t {x : Str} {T : String} {rr : List V → Hp → VK → Prop} {op : List D → Res D} (hm : X.mg x = none) (hv : bootBuiltins x = some (.type T)) (hr : CallR X (.type T) rr) (ne : NoErL op) (c : CalD (gOf X) rr k op) (n1 : x ≠ "__name__" := by decide) (n2 : (x == ("__debug__" : Str)) = false := by decide) : BlM X x k op :=
  ⟨hm, ⟨rr, c, .inr ⟨T, hv, hr⟩⟩, ne, n1, n2⟩
@[simp] noncomputable def one (f : D → Res D) : List D → Res D
  | [d] => f d
  | _ => .bad
@[simp] noncomputable def two (f : D → D → Res D) : List D → Res D
  | [d, e] => f d e
  | _ => .bad
noncomputable def noEr1 (f : D → Res D) : Prop := ∀ d e, f d ≠ .er e
theorem ne_one {f : D → Res D} (h : noEr1 f) : NoErL (one f) := fun ds e z => by
  unfold one at z
  split at z
  · exact h _ _ z
  · cases z
theorem ne_two {f : D → D → Res D} (h : NoEr2 f) : NoErL (two f) := fun ds e z => by
  unfold two at z
  split at z
  · exact h _ _ _ z
  · cases z
theorem cal_one {G : GC} {rr : List V → Hp → VK → Prop} {f : D → Res D} (h : ∀ (F H : Hp) (x : V) (a d : D) (Q : VK), Same F H → RdD G F H x a → f a = .ok d → (∀ v F' H', Grow F H F' H' → k.Rep G H F' H' v d → Q v H') → rr [x] H Q) : CalD G rr k (one f) := fun F H vs ds d Q s r e q => by
  unfold one at e
  split at e
  · cases r with
    | cons r1 rn =>
      cases rn
      exact h F H _ _ d Q s r1 e q
  · cases e
theorem cal_two {G : GC} {rr : List V → Hp → VK → Prop} {f : D → D → Res D} (h : ∀ (F H : Hp) (x y : V) (a b d : D) (Q : VK), Same F H → RdD G F H x a → RdD G F H y b → f a b = .ok d → (∀ v F' H', Grow F H F' H' → k.Rep G H F' H' v d → Q v H') → rr [x, y] H Q) : CalD G rr k (two f) := fun F H vs ds d Q s r e q => by
  unfold two at e
  split at e
  · cases r with
    | cons r1 rn =>
      cases rn with
      | cons r2 rn =>
        cases rn
        exact h F H _ _ _ _ d Q s r1 r2 e q
  · cases e
@[simp] noncomputable def tupleD : D → Res D
  | .lst xs => .ok (.tup xs)
  | .tup xs => .ok (.tup xs)
  | _ => .bad
@[simp] noncomputable def listD : D → Res D
  | .lst xs => .ok (.lst xs)
  | .tup xs => .ok (.lst xs)
  | _ => .bad
theorem b_tuple (hm : X.mg "tuple" = none) : BlM X "tuple" .S (one tupleD) := BlM.t hm boot_tuple (call_tuple_of) (ne_one fun d e z => by unfold tupleD at z; split at z <;> cases z) (cal_one fun F H x a d Q s ra e q => by
  unfold tupleD at e
  split at e <;> cases e
  · obtain ⟨p, vs, rfl, h1, r1⟩ := ra.lst s
    exact ⟨p, vs, rfl, .inl ⟨.of h1, fun t ht => q _ _ _ (Grow.mk1 s ht) (Rep.tup (.of upd_same) (r1.mono (Grow.mk1 s ht).f))⟩⟩
  · obtain ⟨p, vs, rfl, h1, r1⟩ := ra.tup s
    exact ⟨p, vs, rfl, .inr ⟨h1, q _ F H (Grow.refl s) ra.tupS⟩⟩)
theorem b_list (hm : X.mg "list" = none) : BlM X "list" (.O .flat) (one listD) := BlM.t hm boot_list (call_list_of) (ne_one fun d e z => by unfold listD at z; split at z <;> cases z) (cal_one fun F H x a d Q s ra e q => by
  unfold listD at e
  split at e <;> cases e
  · obtain ⟨p, vs, rfl, h1, r1⟩ := ra.lst s
    exact ⟨p, vs, rfl, .inl (.of h1), fun t ht => q _ _ _ (Grow.own s ht) ⟨[t], Own.lst rfl upd_same (s.free ht) (OwnAll.of_rep r1) (by simp), fun a ha => by rw [List.mem_singleton.mp ha]; exact ht⟩⟩
  · obtain ⟨p, vs, rfl, h1, r1⟩ := ra.tup s
    exact ⟨p, vs, rfl, .inr h1, fun t ht => q _ _ _ (Grow.own s ht) ⟨[t], Own.lst rfl upd_same (s.free ht) (OwnAll.of_rep r1) (by simp), fun a ha => by rw [List.mem_singleton.mp ha]; exact ht⟩⟩)
noncomputable def asInts : List D → Option (List Int)
  | [] => some []
  | .int i :: ds => (asInts ds).map (i :: ·)
  | _ :: _ => none
theorem asInts_rep {G : GC} {F : Hp} : ∀ {vs : List V} {ds : List D} {ns : List Int}, RepAll G F vs ds → asInts ds = some ns → vs = ns.map V.int
  | _, _, _, .nil, e => by cases e; rfl
  | _, _, _, .cons (d := d) r t, e => by
    cases d with
    | int i =>
      rw [asInts, Option.map_eq_some_iff] at e
      obtain ⟨ms, e1, e2⟩ := e
      subst e2
      cases r
      rw [asInts_rep t e1]
      rfl
    | _ => cases e
noncomputable def sumD : D → Res D
  | .scr ns => .ok (.int ns.sum)
  | .lst ds => match asInts ds with
    | some ns => .ok (.int ns.sum)
    | none => .bad
  | _ => .bad
theorem boot_sum' : bootBuiltins "sum" = some (.builtin "sum") := by decide +kernel
theorem boot_all' : bootBuiltins "all" = some (.builtin "all") := by decide +kernel
theorem b_sum (hc : X.calm = true) (hm : X.mg "sum" = none) : BlM X "sum" .S (one sumD) := BlM.b hm boot_sum' (cr_sum hc) (ne_one (fun d e z => by unfold sumD at z; split at z <;> (try split at z) <;> cases z)) (cal_one fun F H x a d Q s ra e q => by
  unfold sumD at e
  split at e
  · cases e
    obtain ⟨p, rfl, h1⟩ := ra.scr s
    exact ⟨p, _, rfl, h1, q _ F H (Grow.refl s) (Rep.int _)⟩
  · split at e <;> cases e
    rename_i ns h
    obtain ⟨p, vs, rfl, h1, r1⟩ := ra.lst s
    exact ⟨p, ns, rfl, by rw [← asInts_rep r1 h]; exact .of h1, q _ F H (Grow.refl s) (Rep.int _)⟩
  · cases e)
end
end Mir
namespace Mir
open PySem PySem.Spec PyProof.Rows L2
variable [Tn]
section
variable {G : GC} {J : L2.St → Prop} {H0 F0 F H : Hp} {fp : Nat → List Addr} {σ : L2.St} {r : Env}
theorem MS.lst (m : MS G J H0 F0 fp F σ H r) {i : Nat} {ds : List D} (h : r[i]? = some (.ow .flat (.lst ds))) : ∃ a vs, σ[i]? = some (some (.ref a)) ∧ H a = some (.lst vs) ∧ RepAll G F vs ds ∧ fp i = [a] := by
  obtain ⟨⟨v, h1, h2⟩, _⟩ := m.ow i _ _ h
  generalize fp i = A at h2
  cases h2 with
  | lst _ e _ ra na =>
    obtain ⟨rfl, rr⟩ := ra.to_rep
    exact ⟨_, _, h1, e, rr, rfl⟩
end
section
variable {X : Cx} {W : Wi} {k : Kd} {e : Expr} {fe : Env → Res D} {pos apos cpos ps : Pos} {x : Str}
theorem re_gInt {i : Int} {t : Tok} (hm : X.mg x = some (.int i t)) (hg : Gl X x := by rfl) (hd : (x == ("__debug__" : Str)) = false := by decide) : RE X W .S (.Name x pos) (fun _ => .ok (.int i)) := re_cst (pe_glob (v := .int i) hg hm ⟨t, rfl⟩ hd) fun _ => .int i
/-- a class of one's own -/
theorem re_cls {c : Nat} {C : Addr} (hm : X.mg x = some (.ref C)) (hx : x = cname c := by rfl) (hg : Gl X x := by rfl) (hd : (x == ("__debug__" : Str)) = false := by decide) : RE X W .S (.Name x pos) (fun _ => .ok (.cls c)) := by
  subst hx
  exact re_cst (pe_glob (v := .ref C) hg hm rfl hd) fun _ => .cls hm
/-- a built-in type as a value -/
theorem re_ty {T : String} (hm : X.mg x = none) (hv : bootBuiltins x = some (.type T)) (hg : Gl X x := by rfl) (hn : x ≠ "__name__" := by decide) (hd : (x == ("__debug__" : Str)) = false := by decide) : RE X W .S (.Name x pos) (fun _ => .ok (.ty T)) :=
  re_cst (pe_bltn (v := .ty T) hg hm hv rfl hn hd) fun _ => .ty T
end
end Mir
namespace Mir
open PySem PySem.Spec PyProof.Rows L2
variable [Tn]
theorem WalkD.of_walk {G : GC} {F B : Hp} {J : It} {ds : List D} {n : Nat} {g : Hp → Prop} {Y : Nat → Hp → V → Hp → Prop} (w : Walk J n g Y) (hn : n = ds.length) (hg : ∀ H, Same B H → g H)
    (hy : ∀ (i : Nat) F2 H2 x H3, i < ds.length → Same F F2 → Same F2 H2 → Same B H2 → Y i H2 x H3 → ∃ F3 d, Grow F2 H2 F3 H3 ∧ ds[i]? = some d ∧ Rep G F3 x d) : WalkD G F B J ds := by
  subst hn
  exact ⟨fun i H hi s => w.goes i H hi (hg H s), fun H s => w.stops H (hg H s), fun i F2 H2 x H3 hi s1 s2 s3 y => hy i F2 H2 x H3 hi s1 s2 s3 (w.yields i H2 x H3 hi (hg H2 s3) y)⟩
theorem WalkD.list {G : GC} {F B : Hp} {a : Addr} {vs : List V} {ds : List D} (h : B a = some (.lst vs)) (r : RepAll G F vs ds) : WalkD G F B (Itl G.K a) ds :=
  .of_walk walk_list r.length (fun H s => .of (s _ _ h)) fun i F2 H2 x H3 hi s1 s2 _ ⟨e1, e2⟩ => by
    subst e1
    obtain ⟨d, h1, h2⟩ := r.getV e2
    exact ⟨F2, d, Grow.refl s2, h1, h2.mono s1⟩
theorem WalkD.tup {G : GC} {F B : Hp} {a : Addr} {vs : List V} {ds : List D} (h : SqT G.K B a vs) (r : RepAll G F vs ds) : WalkD G F B (Itt G.K a) ds :=
  .of_walk walk_tup r.length (fun H s => Same.sqT s h) fun i F2 H2 x H3 hi s1 s2 _ ⟨e1, e2⟩ => by
    subst e1
    obtain ⟨d, h1, h2⟩ := r.getV e2
    exact ⟨F2, d, Grow.refl s2, h1, h2.mono s1⟩
theorem WalkD.scr {G : GC} {F B : Hp} {a : Addr} {ns : List Int} (h : SqL G.K B a (ns.map V.int)) : WalkD G F B (Itl G.K a) (ns.map D.int) :=
  .of_walk walk_list (by simp) (fun H s => s.seq h) fun i F2 H2 x H3 hi s1 s2 _ ⟨e1, e2⟩ => by
    subst e1
    rw [List.getElem?_map, Option.map_eq_some_iff] at e2
    obtain ⟨n, h1, h2⟩ := e2
    subst h2
    exact ⟨F2, .int n, Grow.refl s2, by rw [List.getElem?_map, h1]; rfl, .int n⟩
noncomputable def signsOf (z : Str) : List D := z.cps.toList.map fun c => D.str ⟨#[c]⟩
theorem WalkD.str {G : GC} {F B : Hp} {z : Str} : WalkD G F B (Its z) (signsOf z) :=
  .of_walk walk_str (by simp [signsOf]) (fun _ _ => trivial) fun i F2 H2 x H3 hi s1 s2 _ ⟨e1, c, e2, e3⟩ => by
    subst e1 e3
    refine ⟨F2, .str ⟨#[c]⟩, Grow.refl s2, ?_, .str _⟩
    unfold signsOf
    rw [List.getElem?_map, Array.getElem?_toList, e2]
    rfl
noncomputable def rangeL (lo : Int) (n : Nat) : List D := (List.range n).map fun i => D.int (lo + (i : Nat))
theorem WalkD.range {G : GC} {F B : Hp} {lo : Int} {n : Nat} : WalkD G F B (Itr lo n) (rangeL lo n) :=
  .of_walk walk_range (by simp [rangeL]) (fun _ _ => trivial) fun i F2 H2 x H3 hi s1 s2 _ ⟨e1, e2⟩ => by
    subst e1 e2
    refine ⟨F2, .int (lo + i), Grow.refl s2, ?_, .int _⟩
    have hi' : i < n := by simpa [rangeL] using hi
    unfold rangeL
    rw [List.getElem?_map, List.getElem?_range hi']
    rfl
@[simp] noncomputable def itemsS : D → Res (List D)
  | .lst xs => .ok xs
  | .tup xs => .ok xs
  | .scr ns => .ok (ns.map D.int)
  | .str z => .ok (signsOf z)
  | _ => .bad
section
variable {X : Cx} {W : Wi} {e tg : Expr} {fe : Env → Res D} {p pos tpos : Pos}
theorem re_iterS (he : RE X W .S e fe) : RI X W true tg e (fun r => fe r >>= itemsS) := by
  refine ⟨fun pins s σ H R I ⟨H0, F0, fp, F, r, m, o⟩ => ?_⟩
  have o : Out (gOf X) W σ F H _ (fe r >>= itemsS) := o
  cases ef : fe r with
  | er x => exact (pi_list he).run pins s σ H R I ⟨H0, F0, fp, F, r, m, by rw [ef] at o ⊢; exact o⟩
  | bad => rw [ef] at o; exact o.elim
  | ok d =>
    rw [ef] at o
    cases d with
    | lst ds => exact (pi_list he).run pins s σ H R I ⟨H0, F0, fp, F, r, m, by
        rw [ef]
        intro F' H' gr v kv
        have kv' : Rep (gOf X) F' v (.lst ds) := kv
        cases kv' with
        | lst h1 r1 => exact ⟨_, rfl, ⟨_, .of (gr.sub _ _ h1)⟩, o F' H' gr _ (WalkD.list h1 r1)⟩⟩
    | tup ds => exact (pi_tup he).run pins s σ H R I ⟨H0, F0, fp, F, r, m, by
        rw [ef]
        intro F' H' gr v kv
        have kv' : Rep (gOf X) F' v (.tup ds) := kv
        cases kv' with
        | tup h1 r1 => exact ⟨_, rfl, ⟨_, Same.sqT gr.sub h1⟩, o F' H' gr _ (WalkD.tup h1 r1)⟩⟩
    | scr ns => exact (pi_list he).run pins s σ H R I ⟨H0, F0, fp, F, r, m, by
        rw [ef]
        intro F' H' gr v kv
        have kv' : Rep (gOf X) F' v (.scr ns) := kv
        cases kv' with
        | scr h1 => exact ⟨_, rfl, ⟨_, gr.sub.seq h1⟩, o F' H' gr _ (WalkD.scr h1)⟩⟩
    | str z => exact (pi_str he).run pins s σ H R I ⟨H0, F0, fp, F, r, m, by
        rw [ef]
        intro F' H' gr v kv
        have kv' : Rep (gOf X) F' v (.str z) := kv
        cases kv'
        exact ⟨z, rfl, o F' H' gr _ WalkD.str⟩⟩
    | _ => exact o.elim
/-- range(n), range(m, n) in the sizes that are walked -/
noncomputable def rng1 : List D → Res (List D)
  | [.int n] => if -1000000000 ≤ n ∧ n ≤ 1000000000 then .ok (rangeL 0 n.toNat) else .bad
  | _ => .bad
theorem rng1_inv {ds : List D} : (∃ n, ds = [.int n] ∧ (-1000000000 ≤ n ∧ n ≤ 1000000000) ∧ rng1 ds = .ok (rangeL 0 n.toNat)) ∨ rng1 ds = .bad := by
  unfold rng1
  split
  · split
    · rename_i n h; exact .inl ⟨n, rfl, h, rfl⟩
    · exact .inr rfl
  · exact .inr rfl
theorem ri_range1 {b : Bool} {a : Expr} {fa : Env → Res (List D)} (hm : X.mg "range" = none) (ha : RAR X W [a] fa) (hg : Gl X "range" := by rfl) (hs : starEach [a] X.env = [(false, eval a X.env)] := by rfl) : RI X W b tg (.Call (.Name "range" p) [a] [] pos) (fun r => fa r >>= rng1) := by
  refine ⟨fun pins s σ H R I ⟨H0, F0, fp, F, r, m, o⟩ => (pi_range1 hg hm ha hs).run pins s σ H R I ⟨H0, F0, fp, F, r, m, o.bind fun F' H' ds gr o2 vs rv => ?_⟩⟩
  rcases rng1_inv (ds := ds) with ⟨n, rfl, hn, e⟩ | e
  · rw [e] at o2
    cases rv with
    | cons r1 rr =>
      cases rr
      exact ⟨n, by rw [RdD.int r1], by omega, by omega, o2 F' H' (Grow.refl gr.sub) _ WalkD.range⟩
  · rw [e] at o2; exact o2.elim
/-- what a block raises is not looked after -/
noncomputable def nE {α : Type} : Res α → Res α
  | .ok a => .ok a
  | _ => .bad
@[simp] theorem nE_ok {α : Type} (a : α) : nE (.ok a) = .ok a := rfl
theorem nE_some {α : Type} {x : Res α} {a : α} (h : nE x = .ok a) : x = .ok a := by
  cases x <;> first | exact h | cases h
noncomputable def lcD (g : D → Env → Res Env) (t : Env → Res Bool) (f : Env → Res D) (r : Env) : List D → Res (List D)
  | [] => .ok []
  | d :: ds => nE (g d r) >>= fun r1 => nE (t r1) >>= fun b => if b = true then nE (f r1) >>= fun x => lcD g t f r ds >>= fun xs => .ok (x :: xs) else lcD g t f r ds
@[simp] noncomputable def lstD (ds : List D) : Res D := if ds.length ≤ lim then .ok (.lst ds) else .bad
/-- the block's own names forgotten -/
noncomputable def wipeR (r : Env) : List Nat → Env
  | [] => r
  | v :: vs => (wipeR r vs).set v .un
theorem MS.wipe {G : GC} {J J' : L2.St → Prop} {H0 F0 F H : Hp} {fp : Nat → List Addr} {σ : L2.St} {r : Env} (m : MS G J H0 F0 fp F σ H r) : ∀ (vs : List Nat), J' (L2.wipe σ vs) → MS G J' H0 F0 fp F (L2.wipe σ vs) H (wipeR r vs)
  | vs, j => by
    have len : ∀ vs : List Nat, (wipeR r vs).length = r.length := fun vs => by
      induction vs with
      | nil => rfl
      | cons v vs ih => rw [wipeR, List.length_set, ih]
    have some1 : ∀ (vs : List Nat) {i : Nat} {s : Slot}, (wipeR r vs)[i]? = some s → s ≠ .un → r[i]? = some s ∧ i ∉ vs := fun vs => by
      induction vs with
      | nil => exact fun h _ => ⟨h, by simp⟩
      | cons v vs ih =>
        intro i s h ne
        rcases get_set_slot h with ⟨_, x, _⟩ | ⟨n, h⟩
        · exact absurd x.symm ne
        · obtain ⟨h1, h2⟩ := ih h ne
          exact ⟨h1, by simp only [List.mem_cons, not_or]; exact ⟨Ne.symm n, h2⟩⟩
    have keep : ∀ (vs : List Nat) {i : Nat}, i ∉ vs → (L2.wipe σ vs)[i]? = σ[i]? := fun vs => by
      induction vs with
      | nil => exact fun _ => rfl
      | cons v vs ih =>
        intro i h
        simp only [List.mem_cons, not_or] at h
        unfold L2.wipe
        rw [List.getElem?_set_ne (Ne.symm h.1)]
        exact ih h.2
    exact {
      jo := j
      s0 := m.s0
      t0 := m.t0
      f0 := m.f0
      sub := m.sub
      new := m.new
      len := by rw [len, m.len, wipe_length]
      sh := fun i d h => by
        obtain ⟨h1, h2⟩ := some1 vs h (by simp)
        rw [keep vs h2]
        exact m.sh i d h1
      ow := fun i s d h => by
        obtain ⟨h1, h2⟩ := some1 vs h (by simp)
        rw [keep vs h2]
        exact m.ow i s d h1
      ap := fun i k s t d e ne h1 h2 => m.ap i k s t d e ne (some1 vs h1 (by simp)).1 (some1 vs h2 (by simp)).1 }
theorem MS.mapJ {G : GC} {J J' : L2.St → Prop} {H0 F0 F H : Hp} {fp : Nat → List Addr} {σ : L2.St} {r : Env} (m : MS G J H0 F0 fp F σ H r) (j : J' σ) : MS G J' H0 F0 fp F σ H r := ⟨j, m.s0, m.f0, m.sub, m.new, m.len, m.sh, m.ow, m.ap, m.t0⟩
theorem wipe_wipe : ∀ (vs : List Nat) (σ : L2.St), L2.wipe (L2.wipe σ vs) vs = L2.wipe σ vs := fun vs σ => by
  have at1 : ∀ (vs : List Nat) (σ : L2.St) (i : Nat), (L2.wipe σ vs)[i]? = if i ∈ vs then σ[i]?.map fun _ => none else σ[i]? := fun vs => by
    induction vs with
    | nil => intro σ i; simp [L2.wipe]
    | cons v vs ih =>
      intro σ i
      unfold L2.wipe
      by_cases h : v = i
      · subst h
        rw [if_pos List.mem_cons_self]
        by_cases hv : v < (L2.wipe σ vs).length
        · rw [List.getElem?_set_self hv]
          rw [wipe_length] at hv
          rw [List.getElem?_eq_getElem hv]
          rfl
        · rw [List.getElem?_eq_none (by simpa using hv)]
          rw [wipe_length] at hv
          rw [List.getElem?_eq_none (by simpa using hv)]
          rfl
      · rw [List.getElem?_set_ne h, ih]
        simp only [List.mem_cons, show (i = v) = False from eq_false (Ne.symm h), false_or]
  apply List.ext_getElem?
  intro i
  rw [at1, at1]
  by_cases h : i ∈ vs
  · rw [if_pos h, if_pos h]
    cases σ[i]? <;> rfl
  · rw [if_neg h]
theorem wipe_set {vs : List Nat} {i : Nat} (hi : i ∈ vs) (σ : L2.St) (v : Option V) : L2.wipe (σ.set i v) vs = L2.wipe σ vs := by
  induction vs generalizing i with
  | nil => cases hi
  | cons w vs ih =>
    unfold L2.wipe
    by_cases h : i ∈ vs
    · rw [ih h]
    · have e : i = w := by simpa [h] using hi
      subst e
      have z : ∀ (vs : List Nat) (σ : L2.St), i ∉ vs → L2.wipe (σ.set i v) vs = (L2.wipe σ vs).set i v := fun vs => by
        induction vs with
        | nil => exact fun _ _ => rfl
        | cons x vs ih =>
          intro σ h
          simp only [List.mem_cons, not_or] at h
          unfold L2.wipe
          rw [ih σ h.2, List.set_comm _ _ h.1]
      rw [z vs σ h, List.set_set]
noncomputable abbrev W0 : Wi := ⟨fun _ _ _ _ => False, fun _ => True⟩
noncomputable abbrev JB (vs : List Nat) (σ : L2.St) : L2.St → Prop := fun τ => L2.wipe τ vs = L2.wipe σ vs
theorem jb {i : Nat} {vs : List Nat} {σ0 : L2.St} (hi : i ∈ vs) : ∀ (σ : L2.St) (v : Option V), JB vs σ0 σ → JB vs σ0 (σ.set i v) := fun σ v h => (wipe_set hi σ v).trans h
theorem Out.nE {G : GC} {W W' : Wi} {σ τ : L2.St} {α : Type} {F H : Hp} {P : Hp → Hp → α → Prop} {x : Res α} {a : α} (e : nE x = .ok a) (h : ∀ F' H', Grow F H F' H' → P F' H' a) : Out G W σ F H P x := by
  rw [nE_some e]
  exact h
theorem t_lc {G : GC} {b : Bool} {fi : Env → Res (List D)} {g : D → Env → Res Env} {t : Env → Res Bool} {f : Env → Res D} {vs : List Nat} (σ : L2.St) (H : Hp) (Q : VK)
    (h : tE G W (.O .flat) (fun r => fi r >>= fun ds => lcD g t f (wipeR r vs) ds >>= lstD) σ H Q) : tLc (tI G W b fi) (tGd G (JB vs σ) g) (tT G W0 t) (tE G W0 .S f) vs σ H Q := by
  obtain ⟨H0, F0, fp, F, r, m, o⟩ := h
  refine ⟨H0, F0, fp, F, r, m, o.bind fun F1 H1 ds g1 o1 J w D hD => ?_⟩
  cases e : lcD g t f (wipeR r vs) ds with
  | er x =>
    exfalso
    have z : ∀ (ds : List Mir.D) (x : Mir.D), lcD g t f (wipeR r vs) ds ≠ .er x := fun ds => by
      induction ds with
      | nil => exact fun x h => nomatch h
      | cons d ds ih =>
        intro x h
        rw [lcD] at h
        cases e1 : nE (g d (wipeR r vs)) with
        | er y => cases hg : g d (wipeR r vs) <;> (rw [hg] at e1; cases e1)
        | bad => rw [e1] at h; cases h
        | ok r1 =>
          rw [e1] at h
          simp only [ok_bind] at h
          cases e2 : nE (t r1) with
          | er y => cases hg : t r1 <;> (rw [hg] at e2; cases e2)
          | bad => rw [e2] at h; cases h
          | ok bb =>
            rw [e2] at h
            simp only [ok_bind] at h
            cases bb with
            | false => exact ih x h
            | true =>
              rw [if_pos rfl] at h
              cases e3 : nE (f r1) with
              | er y => cases hg : f r1 <;> (rw [hg] at e3; cases e3)
              | bad => rw [e3] at h; cases h
              | ok y =>
                rw [e3] at h
                simp only [ok_bind] at h
                cases e4 : lcD g t f (wipeR r vs) ds with
                | er z => exact ih z e4
                | bad => rw [e4] at h; cases h
                | ok zs => rw [e4] at h; cases h
    exact z _ _ e
  | bad => rw [e] at o1; exact o1.elim
  | ok out =>
    rw [e] at o1
    have hl : out.length ≤ lim := by
      by_cases h : out.length ≤ lim
      · exact h
      · simp only [ok_bind] at o1
        unfold lstD at o1
        rw [if_neg h] at o1
        exact o1.elim
    have o2 : ∀ F' H', Grow F1 H1 F' H' → ∀ v, (Kd.O .flat).Rep G H F' H' v (.lst out) → Q v H' := by
      have o1' : Out G W σ F1 H1 _ (lstD out) := o1
      unfold lstD at o1'
      rw [if_pos hl] at o1'
      exact o1'
    clear o1
    have gD : Grow F1 H1 F1 (upd H1 D (.lst [])) := Grow.own g1.sub hD
    refine ⟨fun i mm H => mm = ds.length - i ∧ i ≤ ds.length ∧ ∃ F acc accD rest, Grow F1 H1 F H ∧ F D = none ∧ H D = some (.lst acc) ∧ RepAll G F acc accD ∧ lcD g t f (wipeR r vs) (ds.drop i) = .ok rest ∧ out = accD ++ rest,
      ⟨ds.length, by simp, Nat.zero_le _, F1, [], [], out, gD, g1.sub.free hD, upd_same, .nil, by rw [List.drop_zero]; exact e, by simp⟩, ?_⟩
    rintro i mm H2 ⟨rfl, hi, F2, acc, accD, rest, g2, nD, hD2, ra, el, eo⟩
    have sB : Same (if b = true then F1 else nT H1) H2 := by
      cases b with
      | true => rw [if_pos rfl]; exact g2.f.trans g2.sub
      | false => exact g2.h.nT
    by_cases hlt : i < ds.length
    · refine .inr ⟨w.goes i H2 hlt sB, fun H' => i + 1 ≤ ds.length ∧ ∃ F acc accD rest, Grow F1 H1 F H' ∧ F D = none ∧ H' D = some (.lst acc) ∧ RepAll G F acc accD ∧ lcD g t f (wipeR r vs) (ds.drop (i + 1)) = .ok rest ∧ out = accD ++ rest,
        fun H' q => ⟨ds.length - (i + 1), by omega, rfl, q.1, q.2⟩, fun x H3 y => ?_⟩
      obtain ⟨F3, d, g3, ed, rx⟩ := w.yields i F2 H2 x H3 hlt g2.f g2.sub sB y
      have e1 : ds.drop i = d :: ds.drop (i + 1) := by
        rw [List.drop_eq_getElem_cons hlt]
        rw [List.getElem?_eq_getElem hlt] at ed
        rw [Option.some.inj ed]
      rw [e1, lcD] at el
      have nD3 : F3 D = none := by
        cases z : F3 D with
        | none => rfl
        | some u =>
          rcases g3.new D u z with q | q
          · rw [nD] at q; cases q
          · rw [hD2] at q; cases q
      cases eg : nE (g d (wipeR r vs)) with
      | er y => rw [eg] at el; cases el
      | bad => rw [eg] at el; cases el
      | ok r1 =>
        rw [eg] at el
        simp only [ok_bind] at el
        have m3 := ((m.grow g1).grow g2).grow g3
        refine ⟨H0, F0, fp, F3, wipeR r vs, d, m3.wipe vs (wipe_wipe vs σ), rx, r1, nE_some eg, fun fp4 σ4 m4 => ⟨m4.jo, ?_⟩⟩
        cases et : nE (t r1) with
        | er y => rw [et] at el; cases el
        | bad => rw [et] at el; cases el
        | ok bb =>
          rw [et] at el
          simp only [ok_bind] at el
          refine ⟨H0, F0, fp4, F3, r1, m4.mapJ trivial, Out.nE (W' := W0) (τ := σ) et fun F5 H5 g5 => ?_⟩
          have g25 := g2.trans (g3.trans g5)
          have D5 : H5 D = some (.lst acc) := g5.h.at _ _ (g3.h.at _ _ hD2)
          have nD5 : F5 D = none := by
            cases z : F5 D with
            | none => rfl
            | some u =>
              rcases g5.new D u z with q | q
              · rw [nD3] at q; cases q
              · rw [g3.h.at _ _ hD2] at q; cases q
          cases bb with
          | false => exact ⟨hlt, F5, acc, accD, rest, g25, nD5, D5, ra.mono (g3.f.trans g5.f), el, eo⟩
          | true =>
            rw [if_pos rfl] at el
            show tE G W0 .S f σ4 H5 _
            cases ex : nE (f r1) with
            | er y => rw [ex] at el; cases el
            | bad => rw [ex] at el; cases el
            | ok dx =>
              rw [ex] at el
              simp only [ok_bind] at el
              cases er : lcD g t f (wipeR r vs) (ds.drop (i + 1)) with
              | er y => rw [er] at el; cases el
              | bad => rw [er] at el; cases el
              | ok rest' =>
                rw [er] at el
                have er2 : rest = dx :: rest' := (Res.ok.inj el).symm
                subst er2
                refine ⟨H0, F0, fp4, F5, r1, (m4.mapJ trivial).grow g5, Out.nE (W' := W0) (τ := σ) ex fun F6 H6 g6 v kv => ⟨acc, g6.h.at _ _ D5, ?_, hlt, F6, acc ++ [v], accD ++ [dx], rest', ?_, ?_, upd_same, (ra.mono ((g3.f.trans g5.f).trans g6.f)).append (.cons kv .nil), rfl, by rw [eo]; simp⟩⟩
                · have hle : acc.length < out.length := by rw [eo, ra.length]; simp
                  exact Nat.lt_of_lt_of_le hle (Nat.le_trans hl lim_le)
                · have g26 := g25.trans g6
                  have nD6 : F6 D = none := by
                    cases z : F6 D with
                    | none => rfl
                    | some u =>
                      rcases g6.new D u z with q | q
                      · rw [nD5] at q; cases q
                      · rw [D5] at q; cases q
                  exact ⟨g26.h.upd hD, g26.f, fun b u q => by rw [upd_ne (ne_of_none q nD6)]; exact g26.sub b u q, g26.new⟩
                · cases z : F6 D with
                  | none => rfl
                  | some u =>
                    rcases g6.new D u z with q | q
                    · rw [nD5] at q; cases q
                    · rw [D5] at q; cases q
    · have ei : i = ds.length := by omega
      subst ei
      rw [List.drop_length] at el
      cases el
      rw [List.append_nil] at eo
      subst eo
      exact .inl ⟨w.stops H2 sB, o2 F2 H2 g2 _ ⟨[D], Own.lst rfl hD2 nD (OwnAll.of_rep ra) (by simp), fun a ha => by rw [List.mem_singleton.mp ha]; exact g1.h.free hD⟩⟩
noncomputable abbrev RTs (X : Cx) (W : Wi) (es : List Expr) (f : Env → Res Bool) : Prop := PTs X es (tT (gOf X) W f)
theorem PTs.imp {es : List Expr} {t t' : TT} (h : PTs X es t) (i : ∀ σ H Q, t' σ H Q → t σ H Q) : PTs X es t' := ⟨fun pins s σ H Q I hw => h.run pins s σ H Q I (i σ H Q hw)⟩
theorem rts_nil : RTs X W [] (fun _ => .ok true) := PTs.imp pts_nil fun σ H Q ⟨H0, F0, fp, F, r, m, o⟩ => o F H (Grow.refl m.sub)
theorem re_lc {b : Bool} {elt iter : Expr} {ifs : List Expr} {scope : Scope} {fi : Env → Res (List D)} {g : D → Env → Res Env} {t : Env → Res Bool} {f : Env → Res D} (own : List (Str × Nat)) (hc : X.calm = true) (hN : X.N.Nodup) (hi : RI X W b tg iter fi) (ok : BlkOk X.N X.env.scope scope own)
    (hg : ∀ (s : Shared) (H : Hp) (C : Addr) (cl : List (Str × Addr)) (fp : List Addr) (σ : L2.St), RG (X.blk s H scope (compEnvC scope cl C X.env) fp) (JB (own.map (·.2)) σ) tg g)
    (ht : ∀ (s : Shared) (H : Hp) (C : Addr) (cl : List (Str × Addr)) (fp : List Addr), RTs (X.blk s H scope (compEnvC scope cl C X.env) fp) W0 ifs t)
    (he : ∀ (s : Shared) (H : Hp) (C : Addr) (cl : List (Str × Addr)) (fp : List Addr), RE (X.blk s H scope (compEnvC scope cl C X.env) fp) W0 .S elt f) (hs : ∀ x, foldedSetIterable iter X.env x = pure x := by intro _; rfl) :
    RE X W (.O .flat) (.ListComp elt [⟨tg, iter, ifs, 0⟩] scope pos) (fun r => fi r >>= fun ds => lcD g t f (wipeR r (own.map (·.2))) ds >>= lstD) :=
  ⟨fun pins s σ H Q I h => (pe_lc (g := tGd (gOf X) (JB (own.map (·.2)) σ) g) hc hN hi ok (fun s H C cl fp => hg s H C cl fp σ) ht he hs).run pins s σ H Q I (t_lc σ H Q h)⟩
/-- name = [..] on one line, the name a local -/
theorem rs_setLc {k : Kd} {b : Bool} {elt iter : Expr} {ifs : List Expr} {scope : Scope} {fi : Env → Res (List D)} {g : D → Env → Res Env} {t : Env → Res Bool} {f : Env → Res D} {y : Str} {py spos : Pos} (i : Nat) (own : List (Str × Nat)) (hc : X.calm = true) (hN : X.N.Nodup) (hi : RI X W b tg iter fi) (ok : BlkOk X.N X.env.scope scope own)
    (hg : ∀ (s : Shared) (H : Hp) (C : Addr) (cl : List (Str × Addr)) (fp : List Addr) (σ : L2.St), RG (X.blk s H scope (compEnvC scope cl C X.env) fp) (JB (own.map (·.2)) σ) tg g)
    (ht : ∀ (s : Shared) (H : Hp) (C : Addr) (cl : List (Str × Addr)) (fp : List Addr), RTs (X.blk s H scope (compEnvC scope cl C X.env) fp) W0 ifs t)
    (he : ∀ (s : Shared) (H : Hp) (C : Addr) (cl : List (Str × Addr)) (fp : List Addr), RE (X.blk s H scope (compEnvC scope cl C X.env) fp) W0 .S elt f)
    (hJ : ∀ σ v, W.J σ → W.J (σ.set i v) := by first | exact fun _ _ h => h | exact jset (by decide) | exact jfn (by decide) | exact jxx (fun _ _ h => h) (by decide) | exact jxx (jset (by decide)) (by decide)) (hy : X.N[i]? = some y := by rfl) (hyl : X.env.scope.names.lookup y = some .local := by rfl) (hk : X.env.scope.kind = .function := by rfl)
    (ha : (scope.names.any fun (n, k) => n == y && (k == .local || k == .cell)) = false := by decide +kernel) (hl : (py.line == pos.line) = true := by rfl) (hs : ∀ x, foldedSetIterable iter X.env x = pure x := by intro _; rfl) :
    RS X W k (.Assign [.Name y py] (.ListComp elt [⟨tg, iter, ifs, 0⟩] scope pos) spos) (fun r => lift (fi r >>= fun ds => lcD g t f (wipeR r (own.map (·.2))) ds >>= lstD) r fun d => .nx (r.set i (.ow .flat d))) :=
  ⟨fun pins s σ H D I h => (ps_setLc (g := tGd (gOf X) (JB (own.map (·.2)) σ) g) hc hN hy hyl (sw_true hk hyl hl ha) hi ok (fun s H C cl fp => hg s H C cl fp σ) ht he hs).run pins s σ H D I (by
    obtain ⟨H0, F0, fp, F, r, m, o⟩ := h
    refine t_lc σ H _ ⟨H0, F0, fp, F, r, m, OutS.lift m o fun F' H' d gr o' v kv => ?_⟩
    obtain ⟨fp', m'⟩ := m.setNew gr i kv hJ
    exact o' fp' F' _ H' (Same.refl _) m')⟩
end
end Mir
namespace Mir
open PySem PySem.Spec PyProof.Rows L2
variable [Tn]
inductive Tg where
  | t (n : String)
  | c (k : Nat)
  deriving DecidableEq
noncomputable def tgOf : D → Tg
  | .non => .t "NoneType"
  | .bl _ => .t "bool"
  | .int _ => .t "int"
  | .str _ => .t "str"
  | .tup _ => .t "tuple"
  | .lst _ => .t "list"
  | .scr _ => .t "list"
  | .dic _ _ => .t "dict"
  | .dct _ _ => .t "dict"
  | .mix .. => .t "dict"
  | .opq => .t "?"
  | .obj c _ => .c c
  | .exc c _ => .c c
  | .cls _ => .t "type"
  | .ty _ => .t "type"
noncomputable def bS : List String := ["NoneType", "bool", "int", "str", "tuple", "list", "dict"]
noncomputable def bT : List String := ["int", "bool", "str", "tuple", "list", "dict", "ValueError"]
noncomputable def clsTg : D → Option Tg
  | .cls c => some (.c c)
  | .ty n => some (.t n)
  | _ => none
noncomputable def tgV (ca : Nat → Addr) : Tg → Value
  | .t n => .type n
  | .c k => .ref (ca k)
/-- the class b is over the class a -/
noncomputable def overC (a b : Nat) : Bool := (a == b) || (b == 5 && decide (a < 2)) || (b == 10 && decide (10 < a))
/-- what isinstance says -/
noncomputable def isaT : Tg → Tg → Bool
  | .t a, .t b => (a == b) || (a == "bool" && b == "int")
  | .t _, .c _ => false
  | .c a, .c b => overC a b
  | .c a, .t b => decide (10 ≤ a) && b == "ValueError"
structure ObjC (K : PySem.W.Frag) (C : Addr) : Prop where
  cl : Cls K C
  ha : PySem.W.findIn K (.ref C) "__class__" = some (some (.builtin "object.__class__"))
  hn : PySem.W.specialIn K (.builtin "object.__class__") "__get__" = some (some (.builtin "getset_descriptor.__get__"))
  ht : PySem.W.takesIn K (.builtin "object.__class__") = some true
  hm : PySem.W.mroIn K C (.type "object") = some true
structure ExcC (K : PySem.W.Frag) (C : Addr) : Prop where
  cl : (PySem.W.clsIn K C).isSome = true
  hg : PySem.W.findIn K (.ref C) "__getattribute__" = some (some (.builtin "BaseException.__getattribute__"))
  hk : PySem.W.findIn K (.ref C) "__getattr__" = some none
  hs : PySem.W.subIn K (.ref C) (.type "BaseException") = some true
  ha : PySem.W.findIn K (.ref C) "__class__" = some (some (.builtin "object.__class__"))
  hn : PySem.W.specialIn K (.builtin "object.__class__") "__get__" = some (some (.builtin "getset_descriptor.__get__"))
  ht : PySem.W.takesIn K (.builtin "object.__class__") = some true
  hm : PySem.W.mroIn K C (.type "object") = some true
/-- the classes cs may be asked for, the classes us may be asked about -/
structure IsM (K : PySem.W.Frag) (ca : Nat → Addr) (cs us : List Nat) : Prop where
  oo : ∀ c ∈ cs, ∀ u ∈ us, PySem.W.kitOne K (.ref (ca c)) (.ref (ca u)) = some (overC c u)
  ot : ∀ c ∈ cs, ∀ u ∈ bT, PySem.W.kitOne K (.ref (ca c)) (.type u) = some (isaT (.c c) (.t u))
  to : ∀ b ∈ bS, ∀ u ∈ us, PySem.W.kitOne K (.type b) (.ref (ca u)) = some false
  ob : ∀ c ∈ cs, c < 10 → ObjC K (ca c)
  ex : ∀ c ∈ cs, 10 ≤ c → ExcC K (ca c)
noncomputable def okS (cs : List Nat) : Tg → Bool
  | .t n => bS.contains n
  | .c k => cs.contains k
noncomputable def okD (cs : List Nat) (d : D) : Bool := okS cs (tgOf d) && (match d with
  | .obj c _ => decide (c < 10)
  | .exc c _ => decide (10 ≤ c)
  | _ => true)
noncomputable def okT (us : List Nat) : Tg → Bool
  | .t n => bT.contains n
  | .c k => us.contains k
theorem bST : ∀ a ∈ bS, ∀ b ∈ bT, kitB a b = some (isaT (.t a) (.t b)) := by decide +kernel
theorem IsM.one {K : PySem.W.Frag} {ca : Nat → Addr} {cs us : List Nat} (M : IsM K ca cs us) {t u : Tg} (h1 : okS cs t = true) (h2 : okT us u = true) : PySem.W.kitOne K (tgV ca t) (tgV ca u) = some (isaT t u) := by
  cases t with
  | t a =>
    have ha : a ∈ bS := by simpa [okS] using h1
    cases u with
    | t b => exact kit_ty (bST a ha b (by simpa [okT] using h2))
    | c k => exact M.to a ha k (by simpa [okT] using h2)
  | c a =>
    have ha : a ∈ cs := by simpa [okS] using h1
    cases u with
    | t b => exact M.ot a ha b (by simpa [okT] using h2)
    | c k => exact M.oo a ha k (by simpa [okT] using h2)
theorem IsM.any {K : PySem.W.Frag} {ca : Nat → Addr} {cs us : List Nat} (M : IsM K ca cs us) {t : Tg} (h1 : okS cs t = true) : ∀ {l : List Tg}, l.all (okT us) = true → PySem.W.kitAny K (tgV ca t) (l.map (tgV ca)) = some (l.any (isaT t))
  | [], _ => rfl
  | u :: l, h => by
    rw [List.all_cons, Bool.and_eq_true] at h
    rw [List.map_cons, List.any_cons]
    refine kitAny_cons (M.one h1 h.1) (fun e => ?_) fun e => ?_
    · rw [e, Bool.false_or]; exact IsM.any M h1 h.2
    · rw [e, Bool.true_or]
noncomputable def optAll : List D → Option (List Tg)
  | [] => some []
  | d :: ds => match clsTg d, optAll ds with
    | some t, some ts => some (t :: ts)
    | _, _ => none
/-- isinstance over data -/
noncomputable def isD (cs us : List Nat) (d c : D) : Res D := if okD cs d = true then (match clsTg c with
    | some u => if okT us u = true then .ok (.bl (isaT (tgOf d) u)) else .bad
    | none => match c with
      | .tup es => match optAll es with
        | some l => if l.all (okT us) = true then .ok (.bl (l.any (isaT (tgOf d)))) else .bad
        | none => .bad
      | _ => .bad) else .bad
theorem ne_isD {cs us : List Nat} : NoEr2 (isD cs us) := fun a b e z => by
  unfold isD at z
  split at z
  · split at z
    · split at z <;> cases z
    · split at z
      · split at z
        · split at z <;> cases z
        · cases z
      · cases z
  · cases z
section
variable {X : Cx} {pins : List (Addr × Obj)} {σ : L2.St} {H F : Hp} {s : Shared}
theorem kit_rd {cs us : List Nat} {v : V} {u : Value} {d : D} (M : IsM X.K (gOf X).ca cs us) (I : L2.Inv X pins σ H s) (sF : Same F H) (h : RdD (gOf X) F H v d) (r : RelV v u) (hk : okD cs d = true) :
    ∃ P : Heap → Prop, PySem.W.KitX X.K u (tgV (gOf X).ca (tgOf d)) P ∧ P s.heap ∧ u ≠ .builtin "__main__.__loader__#opaque" := by
  cases d with
  | non => rw [RdD.non h] at r; exact kit_of I r (.base .non)
  | bl b => rw [RdD.bl h] at r; exact kit_of I r (.base (.bl b))
  | int i => rw [RdD.int h] at r; exact kit_of I r (.base (.int i))
  | str z => rw [RdD.str h] at r; exact kit_of I r (.base (.str z))
  | tup ds =>
    obtain ⟨a, vs, rfl, q, _⟩ := h.tup sF
    rcases q with (q | ⟨o, q⟩) | ⟨o, its, n, q, c, _⟩
    · exact kit_of I r (.base (.tup q))
    · exact kit_of I r (.fTuple q)
    · exact kit_of I r (.kTuple q c)
  | lst ds =>
    obtain ⟨a, vs, rfl, q, _⟩ := h.lst sF
    exact kit_of I r (.base (.lst q))
  | scr ns =>
    obtain ⟨a, rfl, q⟩ := h.scr sF
    rcases q with (q | ⟨o, q⟩) | ⟨o, its, n, q, c, _⟩
    · exact kit_of I r (.base (.lst q))
    · exact kit_of I r (.base (.frz q))
    · exact kit_of I r (.kList q c)
  | dic ks vs =>
    obtain ⟨a, o, xs, ws, rfl, q, _, dd, _⟩ := h.dic sF
    cases (show u = Value.ref a from r)
    obtain ⟨e, _⟩ := (show ObjOk X.prog X.w H s.heap a (.ext (isObj' a o)) from I.hok a _ q)
    exact ⟨_, PySem.W.kitx_dict, ⟨o, e, dd.ex.1⟩, fun z => nomatch z⟩
  | dct ks vs =>
    obtain ⟨a, kvs, rfl, q, _⟩ := h.dct sF
    cases (show u = Value.ref a from r)
    obtain ⟨_, _, ws, _, dd⟩ := dk_any I q
    obtain ⟨o, _, _, e, dx, _⟩ := dd
    exact ⟨_, PySem.W.kitx_dict, ⟨o, e, dx.1⟩, fun z => nomatch z⟩
  | mix ks vs k d =>
    obtain ⟨a, o, xs, ws, u, w, rfl, q, _, dd, _⟩ := h.mix sF
    cases (show _ = Value.ref a from r)
    obtain ⟨e, _⟩ := (show ObjOk X.prog X.w H s.heap a (.ext (isObj' a o)) from I.hok a _ q)
    exact ⟨_, PySem.W.kitx_dict, ⟨o, e, dd.ex.1⟩, fun z => nomatch z⟩
  | opq => exact absurd (show okD cs .opq = true from hk) (by unfold okD; simp [okS, tgOf, bS])
  | obj c vs =>
    unfold okD at hk
    rw [Bool.and_eq_true] at hk
    have hc : c ∈ cs := by simpa [okS, tgOf] using hk.1
    have O := M.ob c hc (of_decide_eq_true hk.2)
    obtain ⟨a, dx, fs, rfl, q⟩ := h.obj sF
    exact kit_of I r (.base (.ins q O.cl O.ha O.hn O.ht O.hm))
  | exc c vs =>
    unfold okD at hk
    rw [Bool.and_eq_true] at hk
    have hc : c ∈ cs := by simpa [okS, tgOf] using hk.1
    have O := M.ex c hc (of_decide_eq_true hk.2)
    rcases h with h | ⟨A, h⟩
    · have ins : ∀ {a : Addr} {d : Option Addr} {od : Option Obj}, (∃ oe us, s.heap.get? a = some oe ∧ oe.cls = .ref ((gOf X).ca c) ∧ oe.dict = d ∧ oe.data = .fields us ∧ us[2]? = some .none) → (match d, od with | some dx, some o => s.heap.get? dx = some o | none, none => True | _, _ => False) → ∃ oe, PySem.W.InstAt s.heap a oe ((gOf X).ca c) od := fun {a d od} ⟨oe, us, h1, h2, h3, h4, _⟩ hd =>
        ⟨oe, h1, h2, by unfold PySem.W.notCls; rw [h4], by rw [h3]; exact hd⟩
      have fin : ∀ {a : Addr} {oe : Obj} {od : Option Obj}, PySem.W.InstAt s.heap a oe ((gOf X).ca c) od → u = .ref a → ∃ P : Heap → Prop, PySem.W.KitX X.K u (tgV (gOf X).ca (tgOf (.exc c vs))) P ∧ P s.heap ∧ u ≠ .builtin "__main__.__loader__#opaque" := fun {a oe od} J e => by
        subst e
        exact ⟨_, PySem.W.kitx_exc O.cl O.hg O.hk O.hs O.ha O.hn O.ht O.hm, J, fun z => nomatch z⟩
      cases h with
      | exc h1 _ =>
        obtain ⟨e, _⟩ := (show ObjOk X.prog X.w H s.heap _ (.ext (isExc _ ((gOf X).ca c) none)) from I.hok _ _ (sF _ _ h1))
        obtain ⟨oe, J⟩ := ins (od := none) e trivial
        exact fin J r
      | excF h1 h2 _ _ =>
        obtain ⟨e, _⟩ := (show ObjOk X.prog X.w H s.heap _ (.ext (isExc _ ((gOf X).ca c) (some _))) from I.hok _ _ (sF _ _ h1))
        obtain ⟨mA, ⟨od, _, _, e2, _⟩, _⟩ := (show ObjOk X.prog X.w H s.heap _ (.xd _) from I.hok _ _ (sF _ _ h2))
        obtain ⟨oe, J⟩ := ins (od := some od) e e2
        exact fin J r
    · cases h
  | cls c => cases hk
  | ty n => cases hk
theorem cls_val {F : Hp} {v : V} {d : D} {u : Value} {t : Tg} (h : Rep (gOf X) F v d) (e : clsTg d = some t) (r : RelV v u) : u = tgV (gOf X).ca t := by
  cases h with
  | cls hm =>
    cases e
    have r' : u = .ref _ := r
    rw [r']
    show Value.ref _ = .ref ((gOf X).ca _)
    rw [ca_of hm]
  | ty n =>
    cases e
    exact r
  | _ => cases e
theorem cls_vals {F : Hp} : ∀ {vs : List V} {ds : List D} {us : List Value} {l : List Tg}, RepAll (gOf X) F vs ds → optAll ds = some l → Vals vs us → us = l.map (tgV (gOf X).ca)
  | _, _, _, _, .nil, e, .nil => by cases e; rfl
  | _, _, _, _, .cons r t, e, .cons q k => by
    rw [optAll] at e
    split at e
    · rename_i a b h1 h2
      cases e
      rw [cls_val r h1 q, cls_vals t h2 k]
      rfl
    · cases e
theorem RdD.clsS {v : V} {d : D} {t : Tg} (h : RdD (gOf X) F H v d) (e : clsTg d = some t) : Rep (gOf X) F v d := by
  rcases h with h | ⟨A, h⟩
  · exact h
  · cases h <;> cases e
noncomputable def rIs (X : Cx) (cs us : List Nat) : List V → Hp → VK → Prop := fun xs H Q => ∃ (F : Hp) (x y : V) (d c e : D), xs = [x, y] ∧ Same F H ∧ RdD (gOf X) F H x d ∧ RdD (gOf X) F H y c ∧ isD cs us d c = .ok e ∧ ∀ v, Rep (gOf X) F v e → Q v H
theorem call_is {cs us : List Nat} (M : IsM X.K (gOf X).ca cs us) : CallR X (.builtin "isinstance") (rIs X cs us) := by
  intro pins s σ H xs ws Q I r h
  obtain ⟨F, x, y, d, c, e, rfl, sF, hd, hc, he, q⟩ := h
  obtain ⟨u1, u2, rfl, r1, r2⟩ := vals2 r
  unfold isD at he
  split at he
  · rename_i hok
    obtain ⟨P, Z, p, hx⟩ := kit_rd M I sF hd r1 hok
    have hok : okS cs (tgOf d) = true := by
      unfold okD at hok
      rw [Bool.and_eq_true] at hok
      exact hok.1
    split at he
    · rename_i t ht
      split at he <;> cases he
      rename_i h2
      have e2 := cls_val (hc.clsS ht) ht r2
      subst e2
      exact PySem.W.kia_one Z I.kIn p (M.one hok h2) hx fun tk => ⟨.bl _, H, I.tok tk, rfl, q _ (.bl _)⟩
    · split at he
      · rename_i es
        split at he
        · rename_i l hl
          split at he <;> cases he
          rename_i h2
          obtain ⟨a, vs, rfl, q1, ra⟩ := hc.tup sF
          cases (show u2 = Value.ref a from r2)
          obtain ⟨its, rv, ⟨o, h1, h2', n, h3⟩, _⟩ := I.tuple q1
          have e3 := cls_vals ra hl rv
          subst e3
          obtain ⟨oc, od, dt, sl⟩ := o
          simp only at h2' h3
          subst h2' h3
          exact PySem.W.kia_tup Z I.kIn p h1 (M.any hok h2) hx fun tk => ⟨.bl _, H, I.tok tk, rfl, q _ (.bl _)⟩
        · cases he
      · cases he
  · cases he
theorem boot_isi : bootBuiltins "isinstance" = some (.builtin "isinstance") := by decide +kernel
theorem b_is {cs us : List Nat} (M : IsM X.K (gOf X).ca cs us) (hm : X.mg "isinstance" = none) : BlM X "isinstance" .S (two (isD cs us)) := BlM.b hm boot_isi (call_is M) (ne_two ne_isD) (cal_two fun F H x y a b d Q s ra rb e q => ⟨F, x, y, a, b, d, rfl, s, ra, rb, e, fun v rv => q v F H (Grow.refl s) rv⟩)
noncomputable def lenD : D → Res D
  | .lst ds => .ok (.int ds.length)
  | .tup ds => .ok (.int ds.length)
  | .scr ns => .ok (.int ns.length)
  | .str z => if z.length ≤ lim then .ok (.int z.length) else .bad
  | .dic ks _ => .ok (.int ks.length)
  | _ => .bad
mutual
theorem nested_of (I : L2.Inv X pins σ H s) (sF : Same F H) : ∀ {v : V} {d : D} {u : Value} {k : NestedKey}, Rep (gOf X) F v d → keyOf d = some k → RelV v u → NestedIs s.heap k u
  | _, _, _, _, .non, e, r => by
    simp only [keyOf, Option.some.injEq] at e
    subst e
    cases (show _ = Value.none from r)
    exact .none
  | _, _, _, _, .bl b, e, r => by
    simp only [keyOf, Option.some.injEq] at e
    subst e
    cases (show _ = Value.bool b from r)
    exact .bool rfl
  | _, _, _, _, .int i, e, r => by
    simp only [keyOf, Option.some.injEq] at e
    subst e
    obtain ⟨t, q⟩ := (show ∃ t, _ = Value.int i t from r)
    cases q
    exact .int i t
  | _, _, _, _, .str z, e, r => by
    simp only [keyOf, Option.some.injEq] at e
    subst e
    obtain ⟨t, q⟩ := (show ∃ t, _ = Value.str z t from r)
    cases q
    exact .text z t
  | _, _, _, _, .tup h ra, e, r => by
    simp only [keyOf, Option.map_eq_some_iff] at e
    obtain ⟨ks, e1, e2⟩ := e
    subst e2
    cases (show _ = Value.ref _ from r)
    obtain ⟨its, rv, ⟨o, h1, h2, n, h3⟩, _⟩ := I.tuple (Same.sqT sF h)
    exact .tup h1 h2 h3 (nested_all I sF ra e1 rv)
  | _, _, _, _, .lst _ _, e, _ => by simp [keyOf] at e
  | _, _, _, _, .scr _, e, _ => by simp [keyOf] at e
  | _, _, _, _, .dic _ _ _ _ _ _ _, e, _ => by simp [keyOf] at e
  | _, _, _, _, .dct _ _ _, e, _ => by simp [keyOf] at e
  | _, _, _, _, .dctK _ _ _, e, _ => by simp [keyOf] at e
  | _, _, _, _, .mix .., e, _ => by simp [keyOf] at e
  | _, _, _, _, .opq, e, _ => by simp [keyOf] at e
  | _, _, _, _, .obj _ _ _, e, _ => by simp [keyOf] at e
  | _, _, _, _, .exc _ _, e, _ => by simp [keyOf] at e
  | _, _, _, _, .excF _ _ _ _, e, _ => by simp [keyOf] at e
  | _, _, _, _, .cls _, e, _ => by simp [keyOf] at e
  | _, _, _, _, .ty _, e, _ => by simp [keyOf] at e
theorem nested_all (I : L2.Inv X pins σ H s) (sF : Same F H) : ∀ {vs : List V} {ds : List D} {us : List Value} {ks : List NestedKey}, RepAll (gOf X) F vs ds → keyOf.keysOf ds = some ks → Vals vs us → NestedAll s.heap ks us
  | _, _, _, _, .nil, e, rv => by
    simp only [keyOf.keysOf, Option.some.injEq] at e
    subst e
    cases rv
    exact .nil
  | _, _, _, _, .cons r t, e, rv => by
    rw [keyOf.keysOf] at e
    split at e
    · rename_i a b h1 h2
      cases e
      cases rv with
      | cons q k => exact .cons (nested_of I sF r h1 q) (nested_all I sF t h2 k)
    · cases e
end
/-- the entries' keys stand -/
theorem keys_is (I : L2.Inv X pins σ H s) (sF : Same F H) : ∀ {xs : List (NestedKey × Addr × Value)} {ks : List D}, RepAll (gOf X) F (xs.map fun x => V.ref x.2.1) ks → ks.map keyOf = xs.map (fun x => some x.1) → (∀ x ∈ xs, x.1.depth ≤ 8) → ∀ x ∈ xs, (nestedKind X.prog X.w).is s.heap x.1 x.2.1
  | [], _, _, _, _, _, h => nomatch h
  | y :: ys, _, .cons r t, e, d, x, h => by
    rw [List.map_cons, List.map_cons, List.cons.injEq] at e
    rcases List.mem_cons.mp h with z | z
    · subst z
      exact ⟨nested_of I sF r e.1 rfl, d x List.mem_cons_self⟩
    · exact keys_is I sF t e.2 (fun x hx => d x (List.mem_cons_of_mem _ hx)) x z
theorem dic_of (I : L2.Inv X pins σ H s) (sF : Same F H) {p : Addr} {o : Obj} {xs : List (NestedKey × Addr × Value)} {ks : List D} (hp : H p = some (.ext (isObj' p o))) (dd : DicO (gOf X) o xs) (h : RepAll (gOf X) F (xs.map fun x => V.ref x.2.1) ks) (e : ks.map keyOf = xs.map (fun x => some x.1)) :
    s.heap.DictOfH (nestedKind X.prog X.w) p xs := by
  obtain ⟨q, _⟩ := (show ObjOk X.prog X.w H s.heap p (.ext (isObj' p o)) from I.hok p _ hp)
  obtain ⟨ents, ep, h1, h2⟩ := dd.dat
  exact ⟨o, ents, ep, q, dd.ex, h1, h2, keys_is I sF h e dd.dp, dd.nd⟩
noncomputable def rLenH (X : Cx) : List V → Hp → VK → Prop := fun xs H Q => ∃ (F : Hp) (p : Addr) (o : Obj) (es : List (NestedKey × Addr × Value)) (ks : List D), xs = [.ref p] ∧ H p = some (.ext (isObj' p o)) ∧ (p == sysModules) = false ∧ Same F H ∧ DicO (gOf X) o es ∧ RepAll (gOf X) F (es.map fun x => V.ref x.2.1) ks ∧ ks.map keyOf = es.map (fun x => some x.1) ∧ Q (.int ((es.length : Nat) : Int)) H
theorem call_lenH : CallR X (.builtin "len") (rLenH X) := by
  intro pins s σ H xs us Q I r h
  obtain ⟨F, p, o, es, ks, rfl, hp, hsys, sF, dd, hr, hk, q⟩ := h
  obtain ⟨u, rfl, rx⟩ := vals1 r
  cases (show u = Value.ref p from rx)
  have hl := dd.sz
  have h63 := line63
  exact call_len_dictH (knd := nestedKind X.prog X.w) hsys (dic_of I sF hp dd hr hk) (by omega) ⟨.int es.length, H, I.tok _, ⟨_, rfl⟩, q⟩
theorem boot_len' : bootBuiltins "len" = some (.builtin "len") := by decide +kernel
theorem b_len (hm : X.mg "len" = none) : BlM X "len" .S (one lenD) := BlM.b hm boot_len' ((call_len_seq.or call_len_str).or call_lenH) (ne_one fun d e z => by unfold lenD at z; split at z <;> (try split at z) <;> cases z) (cal_one fun F H x a d Q s ra e q => by
  unfold lenD at e
  split at e
  · cases e
    obtain ⟨p, vs, rfl, h1, r1⟩ := ra.lst s
    exact .inl (.inl ⟨p, vs, rfl, .inl (.of h1), by rw [r1.length]; exact q _ F H (Grow.refl s) (Rep.int _)⟩)
  · cases e
    obtain ⟨p, vs, rfl, h1, r1⟩ := ra.tup s
    exact .inl (.inl ⟨p, vs, rfl, .inr h1, by rw [r1.length]; exact q _ F H (Grow.refl s) (Rep.int _)⟩)
  · cases e
    obtain ⟨p, rfl, h1⟩ := ra.scr s
    exact .inl (.inl ⟨p, _, rfl, .inl h1, by rw [List.length_map]; exact q _ F H (Grow.refl s) (Rep.int _)⟩)
  · split at e <;> cases e
    rename_i h
    exact .inl (.inr ⟨_, by rw [ra.str], Nat.le_trans h lim_le, q _ F H (Grow.refl s) (Rep.int _)⟩)
  · cases e
    obtain ⟨p, o, xs, ws, rfl, h1, z1, z2, z3, z4, z5, z6⟩ := ra.dic s
    rename_i ks vs
    have hl : xs.length = ks.length := by have := congrArg List.length z5; simpa using this.symm
    exact .inr ⟨F, p, o, xs, ks, rfl, h1, z1, s, z2, z4, z5, by rw [hl]; exact q _ F H (Grow.refl s) (Rep.int _)⟩
  · cases e)
end
end Mir
namespace Mir
open PySem PySem.Spec PyProof.Rows L2
variable [Tn]
section
variable {X : Cx} {pins : List (Addr × Obj)} {σ : L2.St} {H : Hp} {s sI : Shared} {a : Addr}
theorem isExc_ok {P : Program} {w : World} {H : Hp} {h : Heap} {a C : Addr} {d : Option Addr} {oe : Obj} {vs : Array Value} (e : h.get? a = some oe) (z : Zn (.ref C) d oe) (hd : oe.data = .fields vs) : ObjOk P w H h a (.ext (isExc a C d)) :=
  ⟨⟨oe, vs, e, z.1, z.2.1, hd, z.2.2 _ hd⟩, ⟨oe, e⟩, fun _ _ ⟨o, v, q, r⟩ k => ⟨o, v, k o q, r⟩⟩
end
section
variable {X : Cx} {pins : List (Addr × Obj)} {σ : L2.St} {H : Hp} {s sI : Shared} {a : Addr}
/-- a suite's context, the error tracked -/
theorem Inv.suit (I : L2.Inv X pins σ H s) {o : HO} {oe : Obj} {vs : Array Value} (hx : X.ex = []) (J : L2.Inv X pins σ H sI) (nI : sI.heap.get? a = none) (ha : s.heap.get? a = some oe) (hd : oe.data = .fields vs) (na : H a = none) (nL : a ≠ X.env.locals) (new : ObjOk X.prog X.w (upd H a o) s.heap a o) :
    L2.Inv (X.suite a (X.pn ++ pins)) [] σ (upd H a o) s where
  ok := I.ok.suite _ _
  os := I.os
  bare := I.bare
  base := {
    keep := I.base.keep
    slot := I.base.slot
    free := fun b u e n hb => by
      rw [upd_ne ?_]
      · exact I.base.free b u e n hb
      · rintro rfl
        obtain ⟨o', e'⟩ := J.base.there b u e (by show b ∉ X.ex; rw [hx]; simp)
        rw [nI] at e'
        cases e'
    there := I.base.there
    tups := fun b xs e => by rw [upd_ne (ne_of_none (I.base.tups b xs e) na)]; exact I.base.tups b xs e
    frzs := fun b u xs e => by rw [upd_ne (ne_of_none (I.base.frzs b u xs e) na)]; exact I.base.frzs b u xs e
    tbls := fun b ps e => by
      obtain ⟨more, q⟩ := I.base.tbls b ps e
      exact ⟨more, by rw [upd_ne (ne_of_none q na)]; exact q⟩ }
  loc := I.loc
  cell := I.cell
  free := by rw [upd_ne (Ne.symm nL)]; exact I.free
  freeC := fun x c e => by
    rw [upd_ne ?_]
    · exact I.freeC x c e
    · rintro rfl
      obtain ⟨v, o', q1, q2⟩ := I.cell x c e
      rw [ha] at q1
      cases q1
      rw [hd] at q2
      cases q2
  pin := fun p hp => by
    have hp' : p ∈ X.pn ++ pins := by rw [List.append_nil] at hp; exact hp
    obtain ⟨q1, q2, q3⟩ := I.pin p hp'
    refine ⟨q1, ?_, q3⟩
    rw [upd_ne ?_]
    · exact q2
    · rintro rfl
      have z := (J.pin p hp').1
      rw [nI] at z
      cases z
  hok := I.hok.laidN (fun _ _ z => z) na new
  len := I.len
theorem Inv.unsuit {pn' : List (Addr × Obj)} {H' : Hp} (I : L2.Inv (X.suite a (X.pn ++ pins)) pn' σ H' s) (ok : X.Ok) : L2.Inv X pins σ H' s :=
  ⟨ok, I.os, I.bare, I.base, I.loc, I.cell, I.free, I.freeC, fun p hp => I.pin p (List.mem_append_left _ hp), I.hok, I.len⟩
end
/-- an except clause: its class, its name's slot -/
structure Cl where
  c : Value
  i : Option Nat
  t : Addr → TS
noncomputable def clEnds (D : Ends) : Option Nat → Ends
  | none => D
  | some i => { nx := fun σ' H' => D.nx (σ'.set i none) H', rt := D.rt, bk := fun σ' H' => D.bk (σ'.set i none) H', ct := fun σ' H' => D.ct (σ'.set i none) H' }
noncomputable def clSt (σ : L2.St) (a : Addr) : Option Nat → L2.St
  | none => σ
  | some i => σ.set i (some (.ref a))
noncomputable def wTry (K : PySem.W.Frag) (Wout : WX) (D : Ends) : List Cl → WX
  | [] => Wout
  | q :: r => fun cls d σ H => ∃ b, PySem.W.exmOne K cls q.c = some b ∧ (b = true → ∃ C, cls = .ref C ∧ ∀ a, H a = none → q.t a (clEnds D q.i) (clSt σ a q.i) (upd H a (.ext (isExc a C d)))) ∧ (b = false → wTry K Wout D r cls d σ H)
inductive ClsOk (X : Cx) : List ExceptHandler → List Cl → Prop
  | nil : ClsOk X [] []
  | one {x : Str} {q : Cl} {b₀ : Stmt} {suite : List Stmt} {np pos' : Pos} {hds : List ExceptHandler} {l : List Cl} (hc : Names X x q.c) (hi : q.i = none)
      (hsu : ∀ (a : Addr) (pn : List (Addr × Obj)), PSs (X.suite a pn) (b₀ :: suite) (q.t a)) (r : ClsOk X hds l) : ClsOk X (.ExceptHandler (some (.Name x np)) none (b₀ :: suite) pos' :: hds) (q :: l)
  | as {x n : Str} {i : Nat} {q : Cl} {b₀ : Stmt} {suite : List Stmt} {np pos' : Pos} {hds : List ExceptHandler} {l : List Cl} (hc : Names X x q.c) (hi : q.i = some i) (hn : X.N[i]? = some n) (hln : X.env.kindOf n = some .local)
      (hsu : ∀ (a : Addr) (pn : List (Addr × Obj)), PSs (X.suite a pn) (b₀ :: suite) (q.t a)) (r : ClsOk X hds l) : ClsOk X (.ExceptHandler (some (.Name x np)) (some n) (b₀ :: suite) pos' :: hds) (q :: l)
section
variable {X : Cx} {body : List Stmt} {h₀ : ExceptHandler} {hds : List ExceptHandler} {l : List Cl} {pos : Pos} {tb : WX → TS} {Wout : WX}
theorem ps_try (hs : X.stack = X.env :: X.outer) (hf : X.env.frame = some X.env.locals) (hx : X.ex = []) (hN : X.N.Nodup) (tk : Takes X Wout)
    (hb : ∀ (W : WX) (pn : List (Addr × Obj)) (xe : Value → Shared → Prop), Takes (X.tr pn xe) W → PassesOwn (model X.prog X.w) X.A X.env xe → PSs (X.tr pn xe) body (tb W))
    (hh : ClsOk X (h₀ :: hds) l) : PS X (.Try body (h₀ :: hds) [] [] pos) (fun D σ H => tb (wTry X.K Wout D l) D σ H) := by
  refine ⟨fun pins s σ H D I h => ?_⟩
  have ok := I.ok
  have hfr : X.A.frames = some (X.env :: X.outer) := by rw [ok.frames, hs]
  refine wpAny_Try_except ?_
  refine wpAny_mono ((hb (wTry X.K Wout D l) (X.pn ++ pins) (fun e s₁ => wpAny (model X.prog X.w) X.A (noteFrame e X.env) (fun _ s₂ => wpAny (model X.prog X.w) X.A (setFlight e none) (fun _ s₃ =>
    wpAny (model X.prog X.w) X.A (handleBy e X.env (h₀ :: hds)) (SP X pins D) X.xe s₃) X.xe s₂) X.xe s₁) (fun u s' xx => ?_) PassesOwn.looking).run [] s σ H D (I.toTry _) h) (fun f s1 hsp => ?_) (fun e s1 he => he)
  · obtain ⟨a, B, sI, pins', σ', H', cls, d, rfl, J', nb, up, sky, na, os, ag, w⟩ := xx
    have J : L2.Inv X pins σ' H' sI := J'.ofTry ok
    have sky' : Sky B (X.env :: X.outer) a (Zn cls d) X.env.locals s'.heap := by rw [← hs]; exact sky
    show wpAny (model X.prog X.w) X.A (noteFrame (.ref a) X.env) _ _ _
    refine L2N.Sky.land L2N.Zn.steady hfr hf sky' fun h3 fl3 up3 => ?_
    have J3 : L2.Inv X pins σ' H' { s' with heap := h3 } := J.landed nb fl3.1 (up.trans up3) os ag
    obtain ⟨oe3, vs3, he3, hz3, hd3⟩ := fl3.there
    have notFr : ∀ {h : Heap} {o : Obj} {vs : Array Value}, h.FunFrames B (X.env :: X.outer) → h.get? a = some o → o.data = .fields vs → a ∉ frs (X.env :: X.outer) := fun {h o vs} ff e dd hm => by
      obtain ⟨_, o', e', hnf⟩ := ff.mem hm
      rw [e] at e'; cases e'
      exact hnf _ dd
    have nfr := notFr fl3.2.2.1 he3 hd3
    have nL : a ≠ X.env.locals := fun z => nfr (List.mem_filterMap.mpr ⟨X.env, List.mem_cons_self, by rw [hf, z]⟩)
    have nF : a ∉ X.fs := fun hm => by
      obtain ⟨e, he, q⟩ := List.mem_filterMap.mp hm
      exact nfr (List.mem_filterMap.mpr ⟨e, List.mem_cons_of_mem _ he, q⟩)
    have nI : sI.heap.get? a = none := by
      cases q : sI.heap.get? a with
      | none => rfl
      | some o =>
        have z := nb a o q (by rw [hs]; exact nfr)
        have z2 : B.get? a = none := fl3.2.1
        rw [z2] at z
        cases z
    have S3 := J3.suite he3 hd3 na nL nF
    have go : ∀ {hds' : List ExceptHandler} {l' : List Cl}, ClsOk X hds' l' → wTry X.K Wout D l' cls d σ' H' →
        wpAny (model X.prog X.w) X.A (handleBy (.ref a) X.env hds') (SP X pins D) X.xe { s' with heap := h3 } := by
      intro hds' l' hk
      have test0 : ∀ {x : Str} {c : Value} {np : Pos}, Names X x c → ∀ {Q : Value → Shared → Prop} {E : Value → Shared → Prop}, Q c { s' with heap := h3 } → wpAny (model X.prog X.w) (X.A.mark (some (.ref a))) (eval (.Name x np) X.env) Q E { s' with heap := h3 } := fun {x c np} hc {Q E} q => by
        obtain ⟨hg, hdbg, hm | ⟨hm, hv, hnn⟩⟩ := hc
        · exact ld_glob (X := X.suite a ((a, oe3) :: (X.pn ++ pins))) S3 hg hm q hdbg
        · exact ld_blt (X := X.suite a ((a, oe3) :: (X.pn ++ pins))) S3 hg hm hv q hnn hdbg
      have LT : PySem.W.Looks (model X.prog X.w) h3 (typeOf (.ref a)) cls := fun A Q E s k q => wpAny_typeOf_ref (k _ _ he3) (by rw [hz3.1]; exact q)
      induction hk with
      | nil =>
        intro w
        refine wpAny_handleBy_nil ?_
        obtain ⟨k1, k2, k3, oe, vs, T, oT, ts', he, hz, hd, h1, hr⟩ := id fl3
        unfold PySem.passOn
        refine wpAny_bind (wpAny_field he hd h1 ?_)
        rw [if_neg (show ¬ ((Value.ref T == Value.none) = true) from by simp)]
        have fin : wpAny (model X.prog X.w) X.A (setFlight (.ref a) X.env.frame) (fun _ s4 => wpAny (model X.prog X.w) X.A (throw (.ref a) : Sem Flow) (SP X pins D) X.xe s4) X.xe { s' with heap := h3 } := by
          rw [hf]
          refine HandSPX.setFlight_upZ fl3 fun h4 hh4 up4 => wpAny_throw (tk _ _ ?_)
          exact ⟨a, B, sI, pins, σ', H', cls, d, rfl, J, nb, (up.trans up3).trans up4, .inr (.inr (by rw [hs]; exact hh4)), na, os, ag, w⟩
        first
          | exact wpAny_bind (wpAny_pure (wpAny_bind fin))
          | exact wpAny_bind fin
      | @one x q b₀ suite np pos' hds2 l2 hc hi hsu r ih =>
        intro w
        obtain ⟨b, hb1, hyes, hno⟩ := w
        refine wpAny_handleBy_cons (codeAny_handlers_test ?_) (by intro q; cases q)
        have LM := PySem.W.exm_one (M := model X.prog X.w) (J3.kIn) LT hb1
        refine test0 hc (LM.here ?_)
        cases b with
        | true =>
          obtain ⟨C, rfl, hy⟩ := hyes rfl
          refine codeAny_handlers_suite ?_
          refine HandSPX.lands_againZ fl3 fun h4 fl4 up4 => ?_
          have J4 : L2.Inv X pins σ' H' { s' with heap := h4 } := J.landed nb fl4.1 ((up.trans up3).trans up4) os ag
          obtain ⟨oe4, vs4, he4, hz4, hd4⟩ := fl4.there
          have S4 := Mir.Inv.suit (o := .ext (isExc a C d)) J4 hx J nI he4 hd4 na nL (isExc_ok he4 hz4 hd4)
          have hy' := hy a na
          rw [hi] at hy'
          refine wpAny_mono ((hsu a (X.pn ++ pins)).run [] _ _ _ _ S4 hy') (fun f s6 hsp => ?_) (fun _ _ z => False.elim z)
          cases f with
          | next =>
            obtain ⟨σ6, H6, S6, q6⟩ := hsp
            exact ⟨_, _, Inv.unsuit S6 ok, q6⟩
          | brk =>
            obtain ⟨σ6, H6, S6, q6⟩ := hsp
            exact ⟨_, _, Inv.unsuit S6 ok, q6⟩
          | cont =>
            obtain ⟨σ6, H6, S6, q6⟩ := hsp
            exact ⟨_, _, Inv.unsuit S6 ok, q6⟩
          | ret u =>
            obtain ⟨v6, σ6, H6, S6, r6, q6⟩ := hsp
            exact ⟨_, _, _, Inv.unsuit S6 ok, r6, q6⟩
        | false =>
          show wpAny _ X.A (handleBy (.ref a) X.env hds2) _ _ _
          exact ih (hno rfl)
      | @as x n i q b₀ suite np pos' hds2 l2 hc hi hn hln hsu r ih =>
        intro w
        obtain ⟨b, hb1, hyes, hno⟩ := w
        refine wpAny_handleBy_cons (codeAny_handlers_test ?_) (by intro q; cases q)
        have LM := PySem.W.exm_one (M := model X.prog X.w) (J3.kIn) LT hb1
        refine test0 hc (LM.here ?_)
        cases b with
        | true =>
          obtain ⟨C, rfl, hy⟩ := hyes rfl
          refine codeAny_handlers_suite_as ?_
          refine HandSPX.lands_againZ fl3 fun h4 fl4 up4 => ?_
          have J4 : L2.Inv X pins σ' H' { s' with heap := h4 } := J.landed nb fl4.1 ((up.trans up3).trans up4) os ag
          obtain ⟨oe4, vs4, he4, hz4, hd4⟩ := fl4.there
          have S4 := Mir.Inv.suit (o := .ext (isExc a C d)) J4 hx J nI he4 hd4 na nL (isExc_ok he4 hz4 hd4)
          have hloc : Loc X.env.scope n := .inl hln
          have hy' := hy a na
          rw [hi] at hy'
          refine store_ok (X := X.suite a (X.pn ++ pins)) (v := .ref a) S4 hN hn hloc rfl (fun s5 S5 => ?_) (.inr hln)
          refine wpAny_mono ((hsu a (X.pn ++ pins)).run [] s5 _ _ _ S5 hy') (fun f s6 hsp => ?_) (fun _ _ z => False.elim z)
          have end_ : ∀ {σ6 : L2.St} {H6 : Hp} {Q : Shared → Prop}, L2.Inv (X.suite a (X.pn ++ pins)) [] σ6 H6 s6 → (∀ s7, L2.Inv X pins (σ6.set i none) H6 s7 → Q s7) →
              wpAny (model X.prog X.w) X.A (do bindName X.env n .none; unbindBehindTheSuite X.env n pos') (fun _ s7 => Q s7) X.xe s6 := fun {σ6 H6 Q} S6 hq => gone_ok (Inv.unsuit S6 ok) hN hn hln hq
          cases f with
          | next =>
            obtain ⟨σ6, H6, S6, q6⟩ := hsp
            exact end_ S6 fun s7 J7 => ⟨_, _, J7, q6⟩
          | brk =>
            obtain ⟨σ6, H6, S6, q6⟩ := hsp
            exact end_ S6 fun s7 J7 => ⟨_, _, J7, q6⟩
          | cont =>
            obtain ⟨σ6, H6, S6, q6⟩ := hsp
            exact end_ S6 fun s7 J7 => ⟨_, _, J7, q6⟩
          | ret u =>
            obtain ⟨v6, σ6, H6, S6, r6, q6⟩ := hsp
            exact end_ S6 fun s7 J7 => ⟨_, _, _, J7, r6, q6⟩
        | false =>
          show wpAny _ X.A (handleBy (.ref a) X.env hds2) _ _ _
          exact ih (hno rfl)
    exact go hh w
  · cases f with
    | next =>
      obtain ⟨σ', H', J', q⟩ := hsp
      exact wpAny_execs_nil ⟨σ', H', J'.ofTry ok, q⟩
    | brk =>
      obtain ⟨σ', H', J', q⟩ := hsp
      exact ⟨σ', H', J'.ofTry ok, q⟩
    | cont =>
      obtain ⟨σ', H', J', q⟩ := hsp
      exact ⟨σ', H', J'.ofTry ok, q⟩
    | ret u =>
      obtain ⟨v, σ', H', J', r, q⟩ := hsp
      exact ⟨v, σ', H', J'.ofTry ok, r, q⟩
end
theorem MS.unset {G : GC} {J : L2.St → Prop} {H0 F0 F H : Hp} {fp : Nat → List Addr} {σ : L2.St} {r : Env} (m : MS G J H0 F0 fp F σ H r) (i : Nat) (hJ : ∀ σ v, J σ → J (σ.set i v)) : MS G J H0 F0 fp F (σ.set i none) H (r.set i .un) where
  jo := hJ _ _ m.jo
  s0 := m.s0
  t0 := m.t0
  f0 := m.f0
  sub := m.sub
  new := m.new
  len := by simpa using m.len
  sh := fun j e h => by
    rcases get_set_slot h with ⟨_, x, _⟩ | ⟨ne, h⟩
    · cases x
    · rw [List.getElem?_set_ne ne]
      exact m.sh j e h
  ow := fun j s e h => by
    rcases get_set_slot h with ⟨_, x, _⟩ | ⟨ne, h⟩
    · cases x
    · rw [List.getElem?_set_ne ne]
      exact m.ow j s e h
  ap := fun j k s t d e n h1 h2 => by
    rcases get_set_slot h1 with ⟨_, x, _⟩ | ⟨_, h1⟩
    · cases x
    · rcases get_set_slot h2 with ⟨_, x, _⟩ | ⟨_, h2⟩
      · cases x
      · exact m.ap j k s t d e n h1 h2
/-- an except clause over data: the class, the name's slot, the suite -/
structure ClD where
  u : Nat
  i : Option Nat
  g : Env → Oc
noncomputable def bindI (d : D) (r : Env) : Option Nat → Env
  | none => r
  | some i => r.set i (.sh d)
noncomputable def clrI (i : Option Nat) (r : Env) : Env := match i with
  | none => r
  | some i => r.set i .un
noncomputable def closeI (i : Option Nat) : Oc → Oc
  | .nx r => .nx (clrI i r)
  | .bk r => .bk (clrI i r)
  | .ct r => .ct (clrI i r)
  | .rt d => .rt d
  | _ => .bad
noncomputable def catchD (cs us : List Nat) (e : D) (r : Env) : List ClD → Oc
  | [] => .er e r
  | q :: l => match e with
    | .exc c vs => if cs.contains c = true ∧ us.contains q.u = true then (if overC c q.u = true then closeI q.i (q.g (bindI (.exc c vs) r q.i)) else catchD cs us e r l) else .bad
    | _ => .bad
noncomputable def tryD (cs us : List Nat) (gb : Env → Oc) (l : List ClD) (r : Env) : Oc := match gb r with
  | .er e r' => catchD cs us e r' l
  | o => o
/-- errors of cs may come where classes of us are named -/
structure CtM (K : PySem.W.Frag) (ca : Nat → Addr) (cs us : List Nat) : Prop where
  h : ∀ c ∈ cs, ∀ u ∈ us, PySem.W.exmOne K (.ref (ca c)) (.ref (ca u)) = some (overC c u)
noncomputable abbrev WF (J : L2.St → Prop) : Wi := ⟨fun _ _ _ _ => False, J⟩
noncomputable abbrev toCl (G : GC) (J : L2.St → Prop) (k : Kd) (q : ClD) : Cl := ⟨.ref (G.ca q.u), q.i, fun a => tS G (WF (JX J q.i a)) k q.g⟩
theorem catch_ok {G : GC} {W : Wi} {k : Kd} {cs us : List Nat} {H0 F0 F H : Hp} {fp : Nat → List Addr} {σ : L2.St} {r : Env} {DE : Ends} {e : D} {cls : Value} {dd : Option Addr} (M : CtM G.K G.ca cs us) (m : MS G W.J H0 F0 fp F σ H r) (ex : ExcIs G F cls dd e) :
    ∀ (l : List ClD), (∀ q ∈ l, ∀ i, q.i = some i → ∀ σ v, W.J σ → W.J (σ.set i v)) → OutS G W k H0 F0 F DE (catchD cs us e r l) → wTry G.K W.w DE (l.map (toCl G W.J k)) cls dd σ H
  | [], _, o => o fp F σ H cls dd (Same.refl _) m ex
  | q :: l, hJ, o => by
    obtain ⟨c, ws, vs, rfl, rfl, ra, hx⟩ := ex
    rw [catchD] at o
    split at o
    · rename_i hc
      obtain ⟨h1, h2⟩ := hc
      have hm := M.h c (by simpa using h1) q.u (by simpa using h2)
      refine ⟨overC c q.u, hm, fun hb => ?_, fun hb => ?_⟩
      · rw [if_pos hb] at o
        refine ⟨_, rfl, fun a na => ?_⟩
        have gr : Grow F H (upd F a (.ext (isExc a (G.ca c) dd))) (upd H a (.ext (isExc a (G.ca c) dd))) := Grow.mk1 m.sub na
        have m1 := m.grow gr
        have rv : Rep G (upd F a (.ext (isExc a (G.ca c) dd))) (.ref a) (.exc c vs) := by
          rcases hx with ⟨rfl, z, rfl⟩ | ⟨dx, rfl, e2, hl⟩
          · cases ra
            exact .exc upd_same z
          · exact .excF upd_same (gr.f _ _ e2) hl (ra.mono gr.f)
        have o' : OutS G W k H0 F0 (upd F a (.ext (isExc a (G.ca c) dd))) DE (closeI q.i (q.g (bindI (.exc c vs) r q.i))) := OutS.same o gr.f
        have m2 : MS G (JX W.J q.i a) H0 F0 fp (upd F a (.ext (isExc a (G.ca c) dd))) (clSt σ a q.i) (upd H a (.ext (isExc a (G.ca c) dd))) (bindI (.exc c vs) r q.i) := by
          cases hi : q.i with
          | none => exact m1
          | some i => exact (m1.setS i rv (hJ q List.mem_cons_self i hi)).mapJ ⟨(m1.setS i rv (hJ q List.mem_cons_self i hi)).jo, fun v e => by
              rcases Nat.lt_or_ge i σ.length with hl | hl
              · rw [List.getElem?_set_self hl] at e
                exact (Option.some.inj (Option.some.inj e)).symm
              · rw [List.getElem?_eq_none (by simpa using hl)] at e
                cases e⟩
        refine ⟨H0, F0, fp, _, _, m2, ?_⟩
        have clr : ∀ {fp2 F2 σ2 H2 r2}, MS G (JX W.J q.i a) H0 F0 fp2 F2 σ2 H2 r2 → ∀ i, q.i = some i → MS G W.J H0 F0 fp2 F2 (σ2.set i none) H2 (r2.set i .un) := fun m3 i hi => (m3.mapJ (JX.j m3.jo)).unset i (hJ q List.mem_cons_self i hi)
        cases hg : q.g (bindI (.exc c vs) r q.i) with
        | nx r2 =>
          rw [hg] at o'
          intro fp2 F2 σ2 H2 s2 m3
          show (clEnds DE q.i).nx σ2 H2
          cases hi : q.i with
          | none => rw [hi] at o'; exact o' fp2 F2 σ2 H2 s2 (m3.mapJ (JX.j m3.jo))
          | some i => rw [hi] at o'; exact o' fp2 F2 _ H2 s2 (clr m3 i hi)
        | bk r2 =>
          rw [hg] at o'
          intro fp2 F2 σ2 H2 s2 m3
          show (clEnds DE q.i).bk σ2 H2
          cases hi : q.i with
          | none => rw [hi] at o'; exact o' fp2 F2 σ2 H2 s2 (m3.mapJ (JX.j m3.jo))
          | some i => rw [hi] at o'; exact o' fp2 F2 _ H2 s2 (clr m3 i hi)
        | ct r2 =>
          rw [hg] at o'
          intro fp2 F2 σ2 H2 s2 m3
          show (clEnds DE q.i).ct σ2 H2
          cases hi : q.i with
          | none => rw [hi] at o'; exact o' fp2 F2 σ2 H2 s2 (m3.mapJ (JX.j m3.jo))
          | some i => rw [hi] at o'; exact o' fp2 F2 _ H2 s2 (clr m3 i hi)
        | rt d =>
          rw [hg] at o'
          intro F2 H2 v s2 g2 kv
          show (clEnds DE q.i).rt v H2
          cases hi : q.i with
          | none => rw [hi] at o'; exact o' F2 H2 v s2 g2 kv
          | some i => rw [hi] at o'; exact o' F2 H2 v s2 g2 kv
        | er x r2 => rw [hg] at o'; exact o'.elim
        | bad => rw [hg] at o'; exact o'.elim
      · rw [if_neg (by rw [hb]; exact Bool.false_ne_true)] at o
        exact catch_ok M m ⟨c, ws, vs, rfl, rfl, ra, hx⟩ l (fun q hq => hJ q (List.mem_cons_of_mem _ hq)) o
    · exact o.elim
inductive ClsD (X : Cx) (J : L2.St → Prop) (k : Kd) : List ExceptHandler → List ClD → Prop
  | nil : ClsD X J k [] []
  | one {x : Str} {q : ClD} {b₀ : Stmt} {suite : List Stmt} {np pos' : Pos} {hds : List ExceptHandler} {l : List ClD} (hc : Names X x (.ref ((gOf X).ca q.u))) (hi : q.i = none)
      (hsu : ∀ (a : Addr) (pn : List (Addr × Obj)), RSs (X.suite a pn) (WF J) k (b₀ :: suite) q.g) (r : ClsD X J k hds l) : ClsD X J k (.ExceptHandler (some (.Name x np)) none (b₀ :: suite) pos' :: hds) (q :: l)
  | as {x n : Str} {i : Nat} {q : ClD} {b₀ : Stmt} {suite : List Stmt} {np pos' : Pos} {hds : List ExceptHandler} {l : List ClD} (hc : Names X x (.ref ((gOf X).ca q.u))) (hi : q.i = some i) (hn : X.N[i]? = some n) (hln : X.env.kindOf n = some .local) (hJ : ∀ σ v, J σ → J (σ.set i v))
      (hsu : ∀ (a : Addr) (pn : List (Addr × Obj)), RSs (X.suite a pn) (WF (JX J (some i) a)) k (b₀ :: suite) q.g) (r : ClsD X J k hds l) : ClsD X J k (.ExceptHandler (some (.Name x np)) (some n) (b₀ :: suite) pos' :: hds) (q :: l)
theorem ClsD.ok {X : Cx} {J : L2.St → Prop} {k : Kd} : ∀ {hds : List ExceptHandler} {l : List ClD}, ClsD X J k hds l → ClsOk X hds (l.map (toCl (gOf X) J k))
  | _, _, .nil => .nil
  | _, _, .one hc hi hsu r => .one (q := toCl (gOf X) J k _) hc hi (fun a pn => by
      have h := hsu a pn
      show PSs _ _ (tS _ (WF (JX J _ a)) k _)
      rw [hi]
      exact h) (ClsD.ok r)
  | _, _, .as hc hi hn hln _ hsu r => .as (q := toCl (gOf X) J k _) hc hi hn hln (fun a pn => by
      have h := hsu a pn
      show PSs _ _ (tS _ (WF (JX J _ a)) k _)
      rw [hi]
      exact h) (ClsD.ok r)
theorem ClsD.hJ {X : Cx} {J : L2.St → Prop} {k : Kd} : ∀ {hds : List ExceptHandler} {l : List ClD}, ClsD X J k hds l → ∀ q ∈ l, ∀ i, q.i = some i → ∀ σ v, J σ → J (σ.set i v)
  | _, _, .nil, _, h => nomatch h
  | _, _, .one _ hi _ r, q, h => (List.mem_cons.mp h).elim (fun e i z => by subst e; rw [hi] at z; cases z) fun h => ClsD.hJ r q h
  | _, _, .as _ hi _ _ hj _ r, q, h => (List.mem_cons.mp h).elim (fun e i z => by subst e; rw [hi] at z; cases z; exact hj) fun h => ClsD.hJ r q h
theorem rs_try {X : Cx} {W : Wi} {k : Kd} {cs us : List Nat} {body : List Stmt} {h₀ : ExceptHandler} {hds : List ExceptHandler} {l : List ClD} {pos : Pos} {gb : Env → Oc} (M : CtM X.K (gOf X).ca cs us) (hN : X.N.Nodup) (tk : Takes X W.w)
    (hb : ∀ (W' : WX) (pn : List (Addr × Obj)) (xe : Value → Shared → Prop), Takes (X.tr pn xe) W' → PassesOwn (model X.prog X.w) X.A X.env xe → RSs (X.tr pn xe) ⟨W', W.J⟩ k body gb)
    (hh : ClsD X W.J k (h₀ :: hds) l) (hs : X.stack = X.env :: X.outer := by rfl) (hf : X.env.frame = some X.env.locals := by rfl) (hx : X.ex = [] := by rfl) : RS X W k (.Try body (h₀ :: hds) [] [] pos) (tryD cs us gb l) :=
  (ps_try (tb := fun W' => tS (gOf X) ⟨W', W.J⟩ k gb) hs hf hx hN tk hb hh.ok).imp fun D σ H ⟨H0, F0, fp, F, r, m, o⟩ => ⟨H0, F0, fp, F, r, m, by
    unfold tryD at o
    cases e : gb r with
    | er x r' =>
      rw [e] at o
      exact fun fp' F' σ' H' cls dd s m' ex => catch_ok (W := W) M m' ex l hh.hJ (OutS.same (show OutS (gOf X) W k H0 F0 F D (catchD cs us x r' l) from o) s)
    | nx r' => rw [e] at o; exact o
    | bk r' => rw [e] at o; exact o
    | ct r' => rw [e] at o; exact o
    | rt d => rw [e] at o; exact o
    | bad => rw [e] at o; exact o⟩
theorem names_own {X : Cx} {u : Nat} {C : Addr} {x : Str} (hm : X.mg (cname u) = some (.ref C)) (hx : x = cname u := by rfl) (hg : Gl X x := by rfl) (hd : (x == ("__debug__" : Str)) = false := by decide) : Names X x (.ref ((gOf X).ca u)) := by
  subst hx
  exact ⟨hg, hd, .inl (by rw [ca_of (G := gOf X) hm]; exact hm)⟩
end Mir
namespace Mir
open PySem PySem.Spec PyProof.Rows L2
variable [Tn]
noncomputable def enumL (ds : List D) : List D := ds.zipIdx.map fun p => .tup [.int (p.2 : Nat), p.1]
end Mir
namespace Mir
open PySem PySem.Spec PyProof.Rows L2
variable [Tn]
noncomputable def nameG (i : Nat) (d : D) (r : Env) : Res Env := .ok (r.set i (.sh d))
noncomputable def nilG : List D → Env → Res Env := fun ds r => match ds with
  | [] => .ok r
  | _ => .bad
noncomputable def consG (g : D → Env → Res Env) (gs : List D → Env → Res Env) : List D → Env → Res Env := fun ds r => match ds with
  | d :: ds => g d r >>= fun r' => gs ds r'
  | [] => .bad
noncomputable def tupG (n : Nat) (gs : List D → Env → Res Env) : D → Env → Res Env := fun d r => match d with
  | .tup ds => if ds.length = n then gs ds r else .bad
  | _ => .bad
@[simp] theorem nameG_eq (i : Nat) (d : D) (r : Env) : nameG i d r = .ok (r.set i (.sh d)) := rfl
@[simp] theorem nilG_nil (r : Env) : nilG [] r = .ok r := rfl
@[simp] theorem consG_cons (g : D → Env → Res Env) (gs : List D → Env → Res Env) (d : D) (ds : List D) (r : Env) : consG g gs (d :: ds) r = (g d r >>= fun r' => gs ds r') := rfl
@[simp] theorem tupG_tup (n : Nat) (gs : List D → Env → Res Env) (ds : List D) (r : Env) : tupG n gs (.tup ds) r = if ds.length = n then gs ds r else .bad := rfl
section
variable {X : Cx} {J : L2.St → Prop}
theorem gN (i : Nat) {x : Str} {pos : Pos} (hN : X.N.Nodup) (hJ : ∀ σ v, J σ → J (σ.set i v) := by first | exact fun _ _ h => h | exact jset (by decide) | exact jfn (by decide) | exact jxx (fun _ _ h => h) (by decide) | exact jxx (jset (by decide)) (by decide) | exact jb (by decide)) (hi : X.N[i]? = some x := by rfl) (hx : Loc X.env.scope x := by first | exact Or.inl rfl | exact Or.inr rfl) (hf : X.fn x = true ∨ X.env.scope.names.lookup x = some .local := by first | exact .inl rfl | exact .inr rfl) :
    RG X J (.Name x pos) (nameG i) := rg_name i hN hJ hi hx hf
end
/-- the attribute f's place in the classes cs -/
noncomputable def plOf (cs : List Nat) (f : Str) (c : Nat) : Option Nat := if cs.contains c = true then (cflds c).idxOf? f else none
theorem plOf_some {cs : List Nat} {f : Str} {c i : Nat} (h : plOf cs f c = some i) : c ∈ cs ∧ (cflds c)[i]? = some f := by
  unfold plOf at h
  split at h
  · rename_i hc
    refine ⟨by simpa using hc, ?_⟩
    rw [List.idxOf?_eq_some_iff] at h
    obtain ⟨h1, h2, _⟩ := h
    rw [List.getElem?_eq_getElem h1]
    exact congrArg some h2
  · cases h
theorem cflds_nd (c : Nat) : (cflds c).Nodup := by
  unfold cflds
  split <;> decide +kernel
theorem fldM_of {K : PySem.W.Frag} {ca : Nat → Addr} {f : Str} {cs : List Nat} (h : ∀ c ∈ cs, Cls K (ca c) ∧ NoAttr K (ca c) f) : FldM K ca f (plOf cs f) :=
  ⟨fun c i e => let ⟨h1, h2⟩ := plOf_some e; ⟨h2, cflds_nd c, (h c h1).1, (h c h1).2⟩⟩
noncomputable def objB (K : PySem.W.Frag) (C : Addr) : Bool := PySem.W.plainGet K C Str.empty && (PySem.W.hasDictIn K C && (PySem.W.plainOver K C && (decide (PySem.W.findIn K (.ref C) "__setattr__" = some (some (.builtin "object.__setattr__"))) && (decide (PySem.W.findIn K (.ref C) "__class__" = some (some (.builtin "object.__class__"))) &&
  (decide (PySem.W.specialIn K (.builtin "object.__class__") "__get__" = some (some (.builtin "getset_descriptor.__get__"))) && (decide (PySem.W.takesIn K (.builtin "object.__class__") = some true) && decide (PySem.W.mroIn K C (.type "object") = some true)))))))
theorem objB_ok {K : PySem.W.Frag} {C : Addr} (h : objB K C = true) : ObjC K C := by
  unfold objB at h
  simp only [Bool.and_eq_true, decide_eq_true_eq] at h
  obtain ⟨h1, h2, h3, h4, h5, h6, h7, h8⟩ := h
  exact ⟨⟨h1, h2, h3, h4⟩, h5, h6, h7, h8⟩
noncomputable def excB (K : PySem.W.Frag) (C : Addr) : Bool := (PySem.W.clsIn K C).isSome && (decide (PySem.W.findIn K (.ref C) "__getattribute__" = some (some (.builtin "BaseException.__getattribute__"))) && (decide (PySem.W.findIn K (.ref C) "__getattr__" = some none) && (decide (PySem.W.subIn K (.ref C) (.type "BaseException") = some true) && (decide (PySem.W.findIn K (.ref C) "__class__" = some (some (.builtin "object.__class__"))) &&
  (decide (PySem.W.specialIn K (.builtin "object.__class__") "__get__" = some (some (.builtin "getset_descriptor.__get__"))) && (decide (PySem.W.takesIn K (.builtin "object.__class__") = some true) && decide (PySem.W.mroIn K C (.type "object") = some true)))))))
theorem excB_ok {K : PySem.W.Frag} {C : Addr} (h : excB K C = true) : ExcC K C := by
  unfold excB at h
  simp only [Bool.and_eq_true, decide_eq_true_eq] at h
  obtain ⟨h1, h2, h3, h4, h5, h6, h7, h8⟩ := h
  exact ⟨h1, h2, h3, h4, h5, h6, h7, h8⟩
noncomputable def isTab1 (K : PySem.W.Frag) (us : List (Nat × Addr)) (p : Nat × Addr) : Bool := (us.all fun q => decide (PySem.W.kitOne K (.ref p.2) (.ref q.2) = some (overC p.1 q.1))) && ((bT.all fun u => decide (PySem.W.kitOne K (.ref p.2) (.type u) = some (isaT (.c p.1) (.t u)))) && (if p.1 < 10 then objB K p.2 else excB K p.2))
noncomputable def isTab2 (K : PySem.W.Frag) (q : Nat × Addr) : Bool := bS.all fun b => decide (PySem.W.kitOne K (.type b) (.ref q.2) = some false)
noncomputable def isTab (K : PySem.W.Frag) (l us : List (Nat × Addr)) : Bool := l.all (isTab1 K us) && us.all (isTab2 K)
theorem isM_of {K : PySem.W.Frag} {ca : Nat → Addr} {l us : List (Nat × Addr)} (hl : ∀ p ∈ l, ca p.1 = p.2) (hu : ∀ p ∈ us, ca p.1 = p.2) (h : isTab K l us = true) : IsM K ca (l.map (·.1)) (us.map (·.1)) := by
  unfold isTab at h
  simp only [Bool.and_eq_true, List.all_eq_true] at h
  obtain ⟨h1, h2⟩ := h
  have one : ∀ p ∈ l, (∀ q ∈ us, PySem.W.kitOne K (.ref p.2) (.ref q.2) = some (overC p.1 q.1)) ∧ (∀ u ∈ bT, PySem.W.kitOne K (.ref p.2) (.type u) = some (isaT (.c p.1) (.t u))) ∧ (if p.1 < 10 then objB K p.2 else excB K p.2) = true := fun p hp => by
    have z := h1 p hp
    unfold isTab1 at z
    simp only [Bool.and_eq_true, List.all_eq_true, decide_eq_true_eq] at z
    exact z
  have two : ∀ q ∈ us, ∀ b ∈ bS, PySem.W.kitOne K (.type b) (.ref q.2) = some false := fun q hq b hb => by
    have z := h2 q hq
    unfold isTab2 at z
    simp only [List.all_eq_true, decide_eq_true_eq] at z
    exact z b hb
  refine ⟨fun c hc u hu' => ?_, fun c hc u hu' => ?_, fun b hb u hu' => ?_, fun c hc h10 => ?_, fun c hc h10 => ?_⟩
  · obtain ⟨p, hp, rfl⟩ := List.mem_map.mp hc
    obtain ⟨q, hq, rfl⟩ := List.mem_map.mp hu'
    rw [hl p hp, hu q hq]
    exact (one p hp).1 q hq
  · obtain ⟨p, hp, rfl⟩ := List.mem_map.mp hc
    rw [hl p hp]
    exact (one p hp).2.1 u hu'
  · obtain ⟨q, hq, rfl⟩ := List.mem_map.mp hu'
    rw [hu q hq]
    exact two q hq b hb
  · obtain ⟨p, hp, rfl⟩ := List.mem_map.mp hc
    rw [hl p hp]
    have z := (one p hp).2.2
    rw [if_pos h10] at z
    exact objB_ok z
  · obtain ⟨p, hp, rfl⟩ := List.mem_map.mp hc
    rw [hl p hp]
    have z := (one p hp).2.2
    rw [if_neg (by omega)] at z
    exact excB_ok z
noncomputable def ctB (K : PySem.W.Frag) (l us : List (Nat × Addr)) : Bool := l.all fun p => us.all fun q => decide (PySem.W.exmOne K (.ref p.2) (.ref q.2) = some (overC p.1 q.1))
theorem ctM_of {K : PySem.W.Frag} {ca : Nat → Addr} {l us : List (Nat × Addr)} (hl : ∀ p ∈ l, ca p.1 = p.2) (hu : ∀ p ∈ us, ca p.1 = p.2) (h : ctB K l us = true) : CtM K ca (l.map (·.1)) (us.map (·.1)) := by
  unfold ctB at h
  simp only [List.all_eq_true, decide_eq_true_eq] at h
  refine ⟨fun c hc u hu' => ?_⟩
  obtain ⟨p, hp, rfl⟩ := List.mem_map.mp hc
  obtain ⟨q, hq, rfl⟩ := List.mem_map.mp hu'
  rw [hl p hp, hu q hq]
  exact h p hp q hq
/-- an attribute of objects -/
noncomputable def flB (K : PySem.W.Frag) (f : Str) (l : List (Nat × Addr)) : Bool := l.all fun p => objB K p.2 && decide (PySem.W.findIn K (.ref p.2) f = some none)
theorem fldM_by {K : PySem.W.Frag} {ca : Nat → Addr} {f : Str} {l : List (Nat × Addr)} (hl : ∀ p ∈ l, ca p.1 = p.2) (h : flB K f l = true) : FldM K ca f (plOf (l.map (·.1)) f) := fldM_of fun c hc => by
  obtain ⟨p, hp, rfl⟩ := List.mem_map.mp hc
  rw [hl p hp]
  unfold flB at h
  simp only [List.all_eq_true, Bool.and_eq_true, decide_eq_true_eq] at h
  exact ⟨(objB_ok (h p hp).1).cl, (h p hp).2⟩
theorem clM_by {K : PySem.W.Frag} {ca : Nat → Addr} {f : Str} {l : List (Nat × Addr)} {c : Nat} (hl : ∀ p ∈ l, ca p.1 = p.2) (h : flB K f l = true) (hc : c ∈ l.map (·.1)) : ClM K ca f c := by
  obtain ⟨p, hp, rfl⟩ := List.mem_map.mp hc
  unfold flB at h
  simp only [List.all_eq_true, Bool.and_eq_true, decide_eq_true_eq] at h
  have z := h p hp
  refine ⟨?_, ?_, cflds_nd _⟩
  · rw [hl p hp]; exact (objB_ok z.1).cl
  · rw [hl p hp]; exact z.2
/-- an error class without an __init__ of its own -/
noncomputable def e0B (K : PySem.W.Frag) (C : Addr) : Bool := PySem.W.excIn K C veT "ValueError.__new__" && (PySem.W.keepIn K (.ref C) && (decide (PySem.W.subIn K (.ref C) (.type "BaseException") = some true) && decide (PySem.W.typeIn K (.ref C) = some (.type "type"))))
theorem exM0_by {K : PySem.W.Frag} {mg : Str → Option Value} {C : Addr} {c : Nat} (hm : mg (cname c) = some (.ref C)) (h : e0B K C = true) (no : cflds c = [] := by rfl) : ExM0 K mg C c := by
  unfold e0B at h
  simp only [Bool.and_eq_true, decide_eq_true_eq] at h
  obtain ⟨h1, h2, h3, h4⟩ := h
  exact ⟨hm, h1, h2, h3, h4, no⟩
theorem cg_by {P : Program} {w : World} {K : PySem.W.Frag} {mg : Str → Option Value} {c : Nat} {C : Addr} (h : mg (cname c) = some (.ref C)) : mg (cname c) = some (.ref ((⟨P, w, K, mg⟩ : GC).ca c)) := by
  rw [ca_of (G := ⟨P, w, K, mg⟩) h]
  exact h
theorem nT_same (H : Hp) : Same (nT H) H := fun _ _ e => (nT_of e).1
theorem tt_start {H : Hp} {cs : List (Addr × Addr)} (hl : Tn.l = cs.map (·.2)) (hH : ∀ p ∈ cs, H p.2 = some (.tbl #[])) : Tt (nT H) H := fun P hP => by
  rw [hl] at hP
  obtain ⟨p, hp, rfl⟩ := List.mem_map.mp hP
  refine ⟨?_, #[], hH p hp, True.intro, fun pos cv e => ?_⟩
  · unfold nT
    rw [hH p hp]
  · have z : codeAmong pos [] = some cv := e
    simp [codeAmong] at z
/-- the tables: the def's name, where it stands, its code object, its table -/
noncomputable abbrev TbE := Str × Addr × Addr × Addr
noncomputable def tabKB (K : PySem.W.Frag) (t : TbE) : Bool := (match K.lookup t.2.1 with
  | some ⟨_, _, .func fd, _⟩ => (match fd.code with | .ref c => decide (c = t.2.2.1) | _ => false)
  | _ => false) && (PySem.W.codeHdIn K t.2.2.1 t.2.2.2 && ((match K.lookup t.2.2.1 with
  | some ⟨_, _, .fields vs, _⟩ => (match (vs[11]? : Option Value) with | some (.ref P) => decide (P = t.2.2.2) | _ => false)
  | _ => false) && (K.lookup t.2.2.2).isNone))
theorem tabKB_some {K : PySem.W.Frag} {t : TbE} (h : tabKB K t = true) : (∃ (o : Obj) (fd : FuncData), K.lookup t.2.1 = some o ∧ o.data = .func fd ∧ fd.code = .ref t.2.2.1) ∧ PySem.W.codeHdIn K t.2.2.1 t.2.2.2 = true ∧
    (∃ (e : Value) (dd : Option Addr) (vs : Array Value) (sl : Array (Option Value)), K.lookup t.2.2.1 = some ⟨e, dd, .fields vs, sl⟩ ∧ vs[11]? = some (.ref t.2.2.2)) ∧ K.lookup t.2.2.2 = none := by
  unfold tabKB at h
  simp only [Bool.and_eq_true] at h
  obtain ⟨h1, h2, h3, h4⟩ := h
  refine ⟨?_, h2, ?_, by simpa using h4⟩
  · split at h1
    · rename_i fd _ e
      split at h1
      · rename_i c ec
        have := of_decide_eq_true h1
        subst this
        exact ⟨_, fd, e, rfl, ec⟩
      · cases h1
    · cases h1
  · split at h3
    · rename_i vs _ e
      split at h3
      · rename_i c ec
        have := of_decide_eq_true h3
        rw [this] at ec
        exact ⟨_, _, vs, _, e, ec⟩
      · cases h3
    · cases h3
/-- the law's promise, and the tables that it leans on -/
noncomputable def LawT (P : Program) (w : World) (K : PySem.W.Frag) (q : Program) (k : Nat) (x : Str) (mg : Str → Option Value) (fa : Addr) (g : List D → Res D) : Prop :=
  ∃ (tn : Tn) (fd : FuncData) (ts : List TbE), tn.l = ts.map (·.2.2.2) ∧ (∀ t ∈ ts, ((recsOf q).any fun e => e.name == t.1) = true ∧ mg t.1 = some (.ref t.2.1) ∧ tabKB K t = true) ∧ (∀ (s : Shared) (u : Value), BindsTo s fd ⟨[u], []⟩ [(x, u)]) ∧
    ∀ base : Heap, K.In base → base.Ns mainGlobals mg → (∀ t ∈ ts, LamX.TabB base mg t.2.2.1 t.2.2.2) → FnOk P w K mg base (L2N.CX P w) k fa fd [x] (@spM tn ⟨P, w, K, mg⟩ .S g)
theorem walk_mir {l : PySem.W.OpenLaw} {k : Nat} {q : Program} {loose : List Str} {XP : (Str → Option Value) → Heap → Prop} {YP : World → Heap → Prop} {d : DefRec} {K : Params → PySem.W.Frag} {x : Str} {g : List D → Res D}
    (hn : l.most = some 63) (hdf : d.params.defaults = []) (hr : Room k callerA) (hY : ∀ (w : World) (h : Heap), YP w h → (K w.params).In h) (hg : ∀ ns : List Int, ns.length ≤ 63 → g [.scr ns] = .ok (.bl true))
    (F : ∀ (w : World) (mg : Str → Option Value) (fa : Addr) (h : Heap), (K w.params).In h → h.Ns mainGlobals mg → mg d.name = some (.ref fa) → LawT l.prog w (K w.params) q k x mg fa g) :
    PySem.W.WalkO q loose XP YP l.row.toRowW d [] (fun f vs => PySem.call f vs) := by
  refine Att.attach_callB hn hdf fun w s₀ s₁ mg mb fa o pm cd doc a vs ns G Y ho hd hcd hmg hobj hints hlen hbits hg' => ?_
  have KX := hY w _ Y
  obtain ⟨tn, fd, ts, hl, ht, hb, hF⟩ := F w mg fa _ KX G.T.g hmg
  have emp : ∀ t ∈ ts, s₁.heap.get? t.2.2.2 = some { cls := .none, data := .fields #[] } := fun t htm => by
    obtain ⟨hrec, hmt, hk⟩ := ht t htm
    obtain ⟨⟨o1, fd1, k1, k2, k3⟩, _, ⟨e, dd, vs1, sl, k4, k5⟩, _⟩ := tabKB_some hk
    obtain ⟨dL, hm, hn1⟩ := List.any_eq_true.mp hrec
    have hn2 : dL.name = t.1 := beq_iff_eq.mp hn1
    obtain ⟨a', o', fd', c', P', h1, h2, h3, h4, h5, h6⟩ := G.T.tab dL hm
    rw [hn2, hmt] at h1
    cases h1
    have g1 := KX _ _ k1
    rw [g1] at h2
    cases h2
    rw [k2] at h3
    cases h3
    rw [k3] at h4
    cases h4
    obtain ⟨⟨oc, vc, e1, _, e3, e4⟩, hP⟩ := h6
    have g2 := KX _ _ k4
    rw [g2] at e1
    cases e1
    cases e3
    rw [k5] at e4
    cases e4
    exact hP
  refine LamX.law_callTs (cs := ts.map (·.2.2)) KX G.T.g G.T.b G.T.builtins G.T.nolimit hg' (fun p hp => ?_) (fun p hp => ?_) (fun p hp => ?_) G.T.bmain hobj hints (Nat.le_trans hlen (by rw [sizeLine_eq]; decide)) hr (fun base h1 h2 h3 => hF base h1 h2 fun t htm => h3 t.2.2 (List.mem_map.mpr ⟨t, htm, rfl⟩)) hb (fun H hH hS => ?_) fun H e s' c => ?_
  · obtain ⟨t, htm, rfl⟩ := List.mem_map.mp hp
    exact emp t htm
  · obtain ⟨t, htm, rfl⟩ := List.mem_map.mp hp
    exact (tabKB_some (ht t htm).2.2).2.2.2
  · obtain ⟨t, htm, rfl⟩ := List.mem_map.mp hp
    exact PySem.W.codeHd_of_K KX (tabKB_some (ht t htm).2.2).2.1
  · refine ⟨nT H, [.scr ns], nT_same H, tt_start (cs := ts.map (·.2.2)) (by rw [hl, List.map_map]; rfl) hH, .cons (.scr (sqL_nT hS)) .nil, ?_⟩
    rw [hg ns hlen]
    intro F' H' _ v kv
    cases (show Rep _ F' v (.bl true) from kv)
    rfl
  · obtain ⟨a, B, H', cls, d, rfl, fl, hok, ub, na, os, ag, hE⟩ := c
    exact hE
end Mir
namespace Mir
open PySem PySem.Spec PyProof.Rows L2
variable [Tn]
@[simp] noncomputable def tupD (ds : List D) : Res D := if ds.length ≤ lim then .ok (.tup ds) else .bad
theorem boot_ty_int : bootBuiltins "int" = some (.type "int") := by decide +kernel
theorem boot_ty_bool : bootBuiltins "bool" = some (.type "bool") := by decide +kernel
theorem boot_ty_tuple : bootBuiltins "tuple" = some (.type "tuple") := by decide +kernel
theorem boot_ty_list : bootBuiltins "list" = some (.type "list") := by decide +kernel
theorem boot_ty_ValueError : bootBuiltins "ValueError" = some (.type "ValueError") := by decide +kernel
/-- a name's own value is shared behind a statement -/
noncomputable def shareAt (i : Nat) : Oc → Oc
  | .nx r => .nx (freeze i r)
  | o => o
theorem rs_shareLc {X : Cx} {W : Wi} {k : Kd} (i : Nat) {s : Stmt} {g : Env → Oc} (h : RS X W k s g) : RS X W k s (fun r => shareAt i (g r)) :=
  h.imp fun D σ H ⟨H0, F0, fp, F, r, m, o⟩ => ⟨H0, F0, fp, F, r, m, by
    have o : OutS (gOf X) W k H0 F0 F D (shareAt i (g r)) := o
    show OutS (gOf X) W k H0 F0 F D (g r)
    cases e : g r with
    | nx r' =>
      rw [e] at o
      intro fp' F' σ' H' s' m'
      obtain ⟨F2, s2, m2⟩ := m'.freeze i
      exact o fp' F2 σ' H' (s'.trans s2) m2
    | rt d => rw [e] at o; exact o
    | bk r' => rw [e] at o; exact o
    | ct r' => rw [e] at o; exact o
    | er x r' => rw [e] at o; exact o
    | bad => rw [e] at o; exact o⟩
theorem re_gI {X : Cx} {W : Wi} {x : Str} {pos : Pos} {i : Int} (hm : ∃ t, X.mg x = some (.int i t)) (hg : Gl X x := by rfl) (hd : (x == ("__debug__" : Str)) = false := by decide) : RE X W .S (.Name x pos) (fun _ => .ok (.int i)) :=
  let ⟨_, h⟩ := hm
  re_gInt h hg hd
end Mir
namespace Mir
open PySem PySem.Spec PyProof.Rows L2
variable [Tn]
noncomputable def okQ : Nat → D → Bool
  | _, .non => true
  | _, .bl _ => true
  | _, .int _ => true
  | _, .str s => PyData.strOk s
  | n + 1, .tup xs => xs.all (okQ n)
  | n + 1, .lst xs => xs.all (okQ n)
  | _, _ => false
mutual
noncomputable def eqQ : D → D → Bool
  | .non, .non => true
  | .bl a, .bl b => a == b
  | .bl a, .int j => (if a = true then 1 else 0) == j
  | .int i, .bl b => i == (if b = true then 1 else 0)
  | .int i, .int j => i == j
  | .str x, .str y => x == y
  | .lst xs, .lst ys => eqQs xs ys
  | .tup xs, .tup ys => eqQs xs ys
  | _, _ => false
noncomputable def eqQs : List D → List D → Bool
  | [], [] => true
  | x :: xs, y :: ys => eqQ x y && eqQs xs ys
  | _, _ => false
end
theorem toPy_ok : ∀ (n : Nat) (d : D), okQ n d = true → ∃ p, toPy d = some p ∧ p.canLay0 = true ∧ p.depth ≤ n := by
  have all : ∀ (n : Nat), (∀ d, okQ n d = true → ∃ p, toPy d = some p ∧ p.canLay0 = true ∧ p.depth ≤ n) → ∀ xs : List D, xs.all (okQ n) = true → ∃ ps, toPy.toPys xs = some ps ∧ PyData.canLayAll0 ps = true ∧ PyData.depthAll ps ≤ n := fun n h xs => by
    induction xs with
    | nil => exact fun _ => ⟨[], by rw [toPy.toPys], by rw [PyData.canLayAll0], by rw [PyData.depthAll]; omega⟩
    | cons x xs ih =>
      intro hx
      rw [List.all_cons, Bool.and_eq_true] at hx
      obtain ⟨p, h1, h2, h3⟩ := h x hx.1
      obtain ⟨ps, h4, h5, h6⟩ := ih hx.2
      exact ⟨p :: ps, by rw [toPy.toPys, h1, h4], by rw [PyData.canLayAll0, h2, h5]; rfl, by rw [PyData.depthAll]; omega⟩
  intro n
  induction n with
  | zero =>
    intro d h
    cases d with
    | non => exact ⟨.none, by rw [toPy], by rw [PyData.canLay0], by rw [PyData.depth]; omega⟩
    | bl b => exact ⟨.bool b, by rw [toPy], by rw [PyData.canLay0], by rw [PyData.depth]; omega⟩
    | int i => exact ⟨.int i, by rw [toPy], by rw [PyData.canLay0], by rw [PyData.depth]; omega⟩
    | str s => exact ⟨.str s, by rw [toPy], by rw [PyData.canLay0]; simpa [okQ] using h, by rw [PyData.depth]; omega⟩
    | _ => simp [okQ] at h
  | succ n ih =>
    intro d h
    cases d with
    | non => exact ⟨.none, by rw [toPy], by rw [PyData.canLay0], by rw [PyData.depth]; omega⟩
    | bl b => exact ⟨.bool b, by rw [toPy], by rw [PyData.canLay0], by rw [PyData.depth]; omega⟩
    | int i => exact ⟨.int i, by rw [toPy], by rw [PyData.canLay0], by rw [PyData.depth]; omega⟩
    | str s => exact ⟨.str s, by rw [toPy], by rw [PyData.canLay0]; simpa [okQ] using h, by rw [PyData.depth]; omega⟩
    | tup xs =>
      obtain ⟨ps, h1, h2, h3⟩ := all n ih xs (by simpa [okQ] using h)
      exact ⟨.tuple ps, by rw [toPy, h1]; rfl, by rw [PyData.canLay0, h2], by rw [PyData.depth]; omega⟩
    | lst xs =>
      obtain ⟨ps, h1, h2, h3⟩ := all n ih xs (by simpa [okQ] using h)
      exact ⟨.list ps, by rw [toPy, h1]; rfl, by rw [PyData.canLay0, h2], by rw [PyData.depth]; omega⟩
    | _ => simp [okQ] at h
theorem eqv_eqQ : ∀ (n : Nat) (a b : D) (p q : PyData), okQ n a = true → toPy a = some p → toPy b = some q → PyData.eqv p q = eqQ a b := by
  have all : ∀ (n : Nat), (∀ (a b : D) (p q : PyData), okQ n a = true → toPy a = some p → toPy b = some q → PyData.eqv p q = eqQ a b) → ∀ (xs ys : List D) (ps qs : List PyData), xs.all (okQ n) = true → toPy.toPys xs = some ps → toPy.toPys ys = some qs → PyData.eqvAll ps qs = eqQs xs ys := fun n h xs => by
    induction xs with
    | nil =>
      intro ys ps qs _ h1 h2
      rw [toPy.toPys] at h1
      cases h1
      cases ys with
      | nil => rw [toPy.toPys] at h2; cases h2; simp [PyData.eqvAll, eqQs]
      | cons y ys =>
        rw [toPy.toPys] at h2
        split at h2
        · cases h2; simp [PyData.eqvAll, eqQs]
        · cases h2
    | cons x xs ih =>
      intro ys ps qs h0 h1 h2
      rw [List.all_cons, Bool.and_eq_true] at h0
      rw [toPy.toPys] at h1
      split at h1
      · rename_i p ps' e1 e2
        cases h1
        cases ys with
        | nil => rw [toPy.toPys] at h2; cases h2; simp [PyData.eqvAll, eqQs]
        | cons y ys =>
          rw [toPy.toPys] at h2
          split at h2
          · rename_i q qs' e3 e4
            cases h2
            rw [PyData.eqvAll, eqQs, h x y p q h0.1 e1 e3, ih ys ps' qs' h0.2 e2 e4]
          · cases h2
      · cases h1
  intro n
  induction n with
  | zero =>
    intro a b p q h0 h1 h2
    cases a <;> first | (simp [okQ] at h0; done) | skip
    all_goals (simp only [toPy, Option.some.injEq] at h1; subst h1)
    all_goals cases b
    all_goals first
      | (simp only [toPy, Option.some.injEq] at h2; subst h2; simp [PyData.eqv, eqQ]; done)
      | (simp only [toPy, Option.map_eq_some_iff] at h2; obtain ⟨qs, _, h2⟩ := h2; subst h2; simp [PyData.eqv, eqQ]; done)
      | (simp [toPy] at h2; done)
  | succ n ih =>
    intro a b p q h0 h1 h2
    cases a <;> first | (simp [okQ] at h0; done) | skip
    all_goals first
      | (simp only [toPy, Option.some.injEq] at h1; subst h1)
      | (simp only [toPy, Option.map_eq_some_iff] at h1; obtain ⟨ps, e1, h1⟩ := h1; subst h1)
    all_goals cases b
    all_goals first
      | (simp only [toPy, Option.some.injEq] at h2; subst h2; simp [PyData.eqv, eqQ]; done)
      | (simp only [toPy, Option.map_eq_some_iff] at h2; obtain ⟨qs, e2, h2⟩ := h2; subst h2; first | (simp [PyData.eqv, eqQ]; done) | (rw [PyData.eqv, eqQ]; exact all n ih _ _ _ _ (by simpa [okQ] using h0) e1 e2))
      | (simp [toPy] at h2; done)
theorem eqS_ok {a b : D} (ha : okQ 64 a = true) (hb : okQ 64 b = true) : eqS a b = .ok (.bl (eqQ a b)) := by
  obtain ⟨p, h1, h2, h3⟩ := toPy_ok 64 a ha
  obtain ⟨q, h4, h5, h6⟩ := toPy_ok 64 b hb
  unfold eqS
  rw [h1, h4]
  have s1 : SeqAt.shaped p = true := by unfold SeqAt.shaped; rw [h2]; simpa using h3
  have s2 : SeqAt.shaped q = true := by unfold SeqAt.shaped; rw [h5]; simpa using h6
  simp only [s1, s2, and_self, if_true, eqv_eqQ 64 a b p q ha h1 h4]
theorem neS_ok {a b : D} (ha : okQ 64 a = true) (hb : okQ 64 b = true) : neS a b = .ok (.bl (!eqQ a b)) := by
  obtain ⟨p, h1, h2, h3⟩ := toPy_ok 64 a ha
  obtain ⟨q, h4, h5, h6⟩ := toPy_ok 64 b hb
  unfold neS
  rw [h1, h4]
  have s1 : SeqAt.shaped p = true := by unfold SeqAt.shaped; rw [h2]; simpa using h3
  have s2 : SeqAt.shaped q = true := by unfold SeqAt.shaped; rw [h5]; simpa using h6
  simp only [s1, s2, and_self, if_true, eqv_eqQ 64 a b p q ha h1 h4]
theorem eqQ_refl : ∀ (n : Nat) (a : D), okQ n a = true → eqQ a a = true := by
  have all : ∀ n, (∀ a, okQ n a = true → eqQ a a = true) → ∀ xs : List D, xs.all (okQ n) = true → eqQs xs xs = true := fun n h xs => by
    induction xs with
    | nil => intro _; rw [eqQs]
    | cons x xs ih =>
      intro h0
      rw [List.all_cons, Bool.and_eq_true] at h0
      rw [eqQs, h x h0.1, ih h0.2]
      rfl
  intro n
  induction n with
  | zero =>
    intro a h
    cases a <;> first | (simp [okQ] at h; done) | simp [eqQ]
  | succ n ih =>
    intro a h
    cases a <;> first | (simp [okQ] at h; done) | (simp [eqQ]; done) | (rw [eqQ]; exact all n ih _ (by simpa [okQ] using h))
/-- a tuple, a list of whole numbers -/
noncomputable abbrev tuI (xs : List Int) : D := .tup (xs.map .int)
noncomputable abbrev liI (xs : List Int) : D := .lst (xs.map .int)
theorem okQ_ints (n : Nat) (xs : List Int) : (xs.map D.int).all (okQ n) = true := by
  rw [List.all_eq_true]
  intro x hx
  obtain ⟨i, _, rfl⟩ := List.mem_map.mp hx
  cases n <;> rfl
@[simp] theorem okQ_int (n : Nat) (i : Int) : okQ n (.int i) = true := by cases n <;> rfl
@[simp] theorem okQ_bl (n : Nat) (i : Bool) : okQ n (.bl i) = true := by cases n <;> rfl
@[simp] theorem okQ_non (n : Nat) : okQ n .non = true := by cases n <;> rfl
@[simp] theorem okQ_str (n : Nat) (s : Str) : okQ n (.str s) = PyData.strOk s := by cases n <;> rfl
@[simp] theorem okQ_tI (n : Nat) (xs : List Int) : okQ (n + 1) (tuI xs) = true := okQ_ints n xs
theorem eqQs_ints : ∀ xs ys : List Int, eqQs (xs.map D.int) (ys.map D.int) = decide (xs = ys)
  | [], [] => by simp [eqQs]
  | [], _ :: _ => by simp [eqQs]
  | _ :: _, [] => by simp [eqQs]
  | x :: xs, y :: ys => by
    rw [List.map_cons, List.map_cons, eqQs, eqQs_ints xs ys, eqQ]
    by_cases h : x = y <;> by_cases h2 : xs = ys <;> simp [h, h2]
@[simp] theorem eqS_int (i j : Int) : eqS (.int i) (.int j) = .ok (.bl (decide (i = j))) := by
  rw [eqS_ok (by simp) (by simp), eqQ]
  by_cases h : i = j <;> simp [h]
@[simp] theorem neS_int (i j : Int) : neS (.int i) (.int j) = .ok (.bl (!decide (i = j))) := by
  rw [neS_ok (by simp) (by simp), eqQ]
  by_cases h : i = j <;> simp [h]
@[simp] theorem addD_int (i j : Int) : addD (.int i) (.int j) = .ok (.int (i + j)) := rfl
@[simp] theorem subD_int (i j : Int) : subD (.int i) (.int j) = .ok (.int (i - j)) := rfl
theorem modD_ok {i j : Int} (h : 0 < j) : modD (.int i) (.int j) = .ok (.int (i % j)) := if_pos h
theorem bits_le {i : Int} (h : i.natAbs < 2 ^ 250) : bits i < 250 := by
  unfold bits
  by_cases h0 : i.natAbs = 0
  · rw [h0]; decide
  · exact (Nat.log2_lt h0).mpr h
theorem mulD_ok {i j : Int} (h1 : bits i < 250) (h2 : bits j < 250) : mulD (.int i) (.int j) = .ok (.int (i * j)) := by
  show (if bits i + bits j < 1000000 ∨ CMul i j then _ else _) = _
  rw [if_pos (.inl (by omega))]
theorem mulD_small {i j : Int} (h : CMul i j) : mulD (.int i) (.int j) = .ok (.int (i * j)) := by
  show (if bits i + bits j < 1000000 ∨ CMul i j then _ else _) = _
  rw [if_pos (.inr h)]
theorem divD_ok {i j : Int} (h : 0 < j) (h2 : bits j < 250) : divD (.int i) (.int j) = .ok (.int (i / j)) := if_pos ⟨h, by omega⟩
@[simp] theorem gtD_int (i j : Int) : gtD (.int i) (.int j) = .ok (.bl (decide (j < i))) := rfl
@[simp] theorem ltD_int (i j : Int) : ltD (.int i) (.int j) = .ok (.bl (decide (i < j))) := rfl
@[simp] theorem leD_int (i j : Int) : leD (.int i) (.int j) = .ok (.bl (decide (i ≤ j))) := rfl
@[simp] theorem geD_int (i j : Int) : geD (.int i) (.int j) = .ok (.bl (decide (j ≤ i))) := rfl
@[simp] theorem asB_bl (b : Bool) : asB (.bl b) = .ok b := rfl
@[simp] theorem getS0 (d : D) (r : Env) : getS 0 (.sh d :: r) = .ok d := rfl
@[simp] theorem getR0 (d : D) (r : Env) : getR 0 (.sh d :: r) = .ok d := rfl
@[simp] theorem getR0o (d : D) (r : Env) : getR 0 (.ow .flat d :: r) = .ok d := rfl
@[simp] theorem getS_succ (i : Nat) (x : Slot) (r : Env) : getS (i + 1) (x :: r) = getS i r := by simp [getS]
@[simp] theorem getR_succ (i : Nat) (x : Slot) (r : Env) : getR (i + 1) (x :: r) = getR i r := by simp [getR]
@[simp] theorem lenD_lst (xs : List D) : lenD (.lst xs) = .ok (.int xs.length) := rfl
@[simp] theorem lenD_tup (xs : List D) : lenD (.tup xs) = .ok (.int xs.length) := rfl
@[simp] theorem lenD_scr (xs : List Int) : lenD (.scr xs) = .ok (.int xs.length) := rfl
@[simp] theorem sumD_scr (xs : List Int) : sumD (.scr xs) = .ok (.int xs.sum) := rfl
@[simp] theorem seq_ite (c : Prop) [Decidable c] (a b : Oc) (g : Env → Oc) : (if c then a else b).seq g = if c then a.seq g else b.seq g := by split <;> rfl
/-- a number of at most sixty figures -/
theorem bits_60 {i : Int} (h1 : -(10 ^ 60) ≤ i) (h2 : i ≤ 10 ^ 60) : bits i < 250 := bits_le (Nat.lt_of_le_of_lt (show i.natAbs ≤ 10 ^ 60 by omega) (by decide))
theorem runD_rt {p n : Nat} {g : Env → Oc} {ds : List D} {d : D} (h : ds.length = p) (e : g (startD n ds) = .rt d) : runD p n g ds = .ok d := by
  unfold runD
  rw [if_pos h, e]
theorem forD_ix {f : D → Env → Oc} {ds : List D} (P : Nat → Env → Prop) (h : ∀ i d, ds[i]? = some d → ∀ r, P i r → ∃ r', f d r = .nx r' ∧ P (i + 1) r') {r : Env} (h0 : P 0 r) : ∃ r', forD f ds r = .nx r' ∧ P ds.length r' := by
  have go : ∀ (ds : List D) (k : Nat) (r : Env), (∀ i d, ds[i]? = some d → ∀ r, P (k + i) r → ∃ r', f d r = .nx r' ∧ P (k + i + 1) r') → P k r → ∃ r', forD f ds r = .nx r' ∧ P (k + ds.length) r' := fun ds => by
    induction ds with
    | nil => exact fun k r _ h0 => ⟨r, rfl, h0⟩
    | cons d ds ih =>
      intro k r h h0
      obtain ⟨r1, h1, h2⟩ := h 0 d rfl r h0
      obtain ⟨r2, h3, h4⟩ := ih (k + 1) r1 (fun i e he r hr => by
        have z := h (i + 1) e (by simpa using he) r (by rw [show k + (i + 1) = k + 1 + i by omega]; exact hr)
        rw [show k + (i + 1) + 1 = k + 1 + i + 1 by omega] at z
        exact z) h2
      refine ⟨r2, ?_, by rw [List.length_cons, show k + (ds.length + 1) = k + 1 + ds.length by omega]; exact h4⟩
      rw [forD_cons, h1]
      exact h3
  obtain ⟨r', h1, h2⟩ := go ds 0 r (fun i d hd r hr => by
    rw [Nat.zero_add] at hr ⊢
    exact h i d hd r hr) h0
  exact ⟨r', h1, by rw [Nat.zero_add] at h2; exact h2⟩
@[simp] theorem rangeL_zero (lo : Int) : rangeL lo 0 = [] := rfl
@[simp] theorem rangeL_len (lo : Int) (n : Nat) : (rangeL lo n).length = n := by simp [rangeL]
end Mir
namespace Mir
open PySem PySem.Spec PyProof.Rows L2
variable [Tn]
noncomputable def SIt (h : Heap) (k : Bool) (it l : Addr) (i : Nat) : Prop := match k with
  | true => h.IsListIter it l i
  | false => h.IsTupleIter it l i
noncomputable def SSrc (h : Heap) (k : Bool) (l : Addr) (items : Array Value) : Prop := match k with
  | true => h.IsList l items
  | false => h.IsTuple l items
noncomputable def clsI : Bool → String
  | true => "list_iterator"
  | false => "tuple_iterator"
theorem SIt.at {h h' : Heap} {k : Bool} {it l : Addr} {i : Nat} (x : SIt h k it l i) (f : ∀ o, h.get? it = some o → h'.get? it = some o) : SIt h' k it l i := by
  cases k with
  | true => exact Heap.IsListIter.at (show h.IsListIter it l i from x) f
  | false => exact Heap.IsTupleIter.at (show h.IsTupleIter it l i from x) f
theorem SIt.ob {h : Heap} {k : Bool} {it l : Addr} {i : Nat} (x : SIt h k it l i) : ∃ o, h.get? it = some o ∧ ∀ v, o.data ≠ .cell v := by
  cases k with
  | true =>
    obtain ⟨o, e, _, d⟩ := (show h.IsListIter it l i from x)
    exact ⟨o, e, fun v q => by rw [d] at q; cases q⟩
  | false =>
    obtain ⟨o, e, _, d⟩ := (show h.IsTupleIter it l i from x)
    exact ⟨o, e, fun v q => by rw [d] at q; cases q⟩
theorem SIt.lt {h : Heap} {k : Bool} {it l : Addr} {i : Nat} (x : SIt h k it l i) : it < h.objs.size := let ⟨_, e, _⟩ := x.ob; Heap.lt_size e
theorem SSrc.at {h h' : Heap} {k : Bool} {l : Addr} {xs : Array Value} (x : SSrc h k l xs) (f : ∀ o, h.get? l = some o → h'.get? l = some o) : SSrc h' k l xs := by
  cases k with
  | true => exact Heap.IsList.at (show h.IsList l xs from x) f
  | false =>
    obtain ⟨o, e, r⟩ := (show h.IsTuple l xs from x)
    exact ⟨o, f o e, r⟩
theorem SSrc.lt {h : Heap} {k : Bool} {l : Addr} {xs : Array Value} (x : SSrc h k l xs) : l < h.objs.size := by
  cases k with
  | true =>
    obtain ⟨o, e, _⟩ := (show h.IsList l xs from x)
    exact Heap.lt_size e
  | false =>
    obtain ⟨o, e, _⟩ := (show h.IsTuple l xs from x)
    exact Heap.lt_size e
noncomputable abbrev IsT (h : Heap) (T : Addr) (vs : Array Value) : Prop := h.get? T = some { cls := .type "tuple", data := .seq vs }
section
variable {prog : Program} {w : World} {A : Around} {E : Value → Shared → Prop} {s : Shared}
theorem iterS {k : Bool} {l : Addr} {items : Array Value} {Q : Value → Shared → Prop} (hl : SSrc s.heap k l items) (h : Q (.ref s.heap.objs.size) { s with heap := s.heap.push { cls := .type (clsI k), data := .fields #[.ref l, .int 0 0] } }) :
    wpAny (model prog w) A (pyIter (.ref l)) Q E s := by
  cases k with
  | true => exact wpAny_pyIter_list hl h
  | false => exact wpAny_pyIter_tuple hl h
end
/-- what stands at a: a list or a tuple -/
noncomputable def SqS (K : PySem.W.Frag) (H : Hp) (k : Bool) (a : Addr) (xs : List V) : Prop := match k with
  | true => SqL K H a xs
  | false => SqT K H a xs
theorem SqS.keep {K : PySem.W.Frag} {H H' : Hp} {k : Bool} {a : Addr} {xs : List V} (e : Same H H') (h : SqS K H k a xs) : SqS K H' k a xs := by
  cases k with
  | true => exact e.seq (show SqL K H a xs from h)
  | false => exact Same.sqT e (show SqT K H a xs from h)
section
variable {X : Cx} {pins : List (Addr × Obj)} {σ : L2.St} {H : Hp} {s : Shared}
theorem Inv.srcS (I : L2.Inv X pins σ H s) {k : Bool} {a : Addr} {xs : List V} (h : SqS X.K H k a xs) : ∃ its : List Value, Vals xs its ∧ SSrc s.heap k a its.toArray := by
  cases k with
  | true =>
    obtain ⟨its, rv, p, _⟩ := I.list (show SqL X.K H a xs from h)
    exact ⟨its, rv, p.isList⟩
  | false =>
    obtain ⟨its, rv, p, _⟩ := I.tuple (show SqT X.K H a xs from h)
    exact ⟨its, rv, p⟩
end
/-- a datum's items, by their places -/
noncomputable def seqQ : D → Option (List D)
  | .lst xs => some xs
  | .tup xs => some xs
  | .scr ns => some (ns.map D.int)
  | _ => none
end Mir
namespace Mir
open PySem PySem.Spec PyProof.Rows L2
variable [Tn]
noncomputable def trD : D → Option Bool
  | .bl b => some b
  | .int i => some (i != 0)
  | _ => none
noncomputable def trsD : List D → Option (List Bool)
  | [] => some []
  | d :: ds => match trD d, trsD ds with
    | some b, some bs => some (b :: bs)
    | _, _ => none
noncomputable def trV : V → Bool → Prop := fun x b => x = .bl b ∨ ∃ i : Int, x = .int i ∧ b = (i != 0)
theorem trs_rep {G : GC} {F : Hp} : ∀ {vs : List V} {ds : List D} {bs : List Bool}, RepAll G F vs ds → trsD ds = some bs → Paired trV vs bs
  | _, _, _, .nil, e => by cases e; exact .nil
  | _, _, _, .cons (d := d) r t, e => by
    rw [trsD] at e
    split at e
    · rename_i b bs h1 h2
      cases e
      refine .cons ?_ (trs_rep t h2)
      cases d with
      | bl c => cases h1; cases r; exact .inl rfl
      | int i => cases h1; cases r; exact .inr ⟨i, rfl, rfl⟩
      | _ => cases h1
    · cases e
theorem paired_at {vs : List V} {bs : List Bool} {its : List Value} (p : Paired trV vs bs) (r : Vals vs its) : ∀ {i : Nat} {v : Value}, its[i]? = some v → ∃ x b, RelV x v ∧ trV x b ∧ bs[i]? = some b := by
  induction p generalizing its with
  | nil => cases r; intro i v h; simp at h
  | cons a l ih =>
    cases r with
    | cons q k =>
      intro i v h
      cases i with
      | zero =>
        simp at h
        subst h
        exact ⟨_, _, q, a, rfl⟩
      | succ i =>
        obtain ⟨x, b, h1, h2, h3⟩ := ih k (by simpa using h)
        exact ⟨x, b, h1, h2, by simpa using h3⟩
theorem truth_trs {prog : Program} {w : World} {A : Around} {vs : List V} {bs : List Bool} {its : List Value} (p : Paired trV vs bs) (r : Vals vs its) : TruthOf prog w A (fun i v => its.toArray[i]? = some v) (fun i => bs.getD i false) := fun i v s Q E hv hq => by
  obtain ⟨x, b, h1, h2, h3⟩ := paired_at p r (show its[i]? = some v by simpa using hv)
  have hg : bs.getD i false = b := by rw [List.getD_eq_getElem?_getD, h3] <;> rfl
  have hq' : Q (bs.getD i false) s := hq
  rw [hg] at hq'
  rcases h2 with rfl | ⟨j, rfl, rfl⟩
  · cases (show v = Value.bool b from h1)
    exact wpAny_truthy_bool hq'
  · obtain ⟨t, e⟩ := (show ∃ t, v = Value.int j t from h1)
    subst e
    exact PySem.P.truthy_int hq'
noncomputable def rAllT (K : PySem.W.Frag) : List V → Hp → VK → Prop := fun vs H Q => ∃ (k : Bool) (a : Addr) (xs : List V) (bs : List Bool), vs = [V.ref a] ∧ SqS K H k a xs ∧ Paired trV xs bs ∧ Q (.bl (bs.all id)) H
theorem all_range' : ∀ bs : List Bool, (List.range bs.length).all (fun i => bs.getD i false) = bs.all id
  | [] => rfl
  | b :: bs => by
    rw [List.length_cons, List.range_succ_eq_map, List.all_cons, List.all_map, List.all_cons]
    have z := all_range' bs
    rw [← z]
    rfl
section
variable {X : Cx}
theorem walks_S {P : Program} {w : World} {A : Around} (hh : A.handled = none) (I ax : Addr) (hne : ax ≠ I) (k : Bool) (items : Array Value) : Walks P w A I [I, ax] [I] items.size (fun i v => items[i]? = some v) (fun i h => SIt h k I ax i ∧ SSrc h k ax items) := by
  cases k with
  | true => exact Walks.list hh I ax hne items
  | false => exact Walks.tuple hh I ax hne items
theorem cr_allT (hc : X.calm = true) : CallR X (.builtin "all") (rAllT X.K) := by
  intro pins s σ H vs us Q I r h
  obtain ⟨k, a, xs, bs, rfl, hs, pr, q⟩ := h
  obtain ⟨its, rv, hl⟩ := Inv.srcS I hs
  rw [Vals.ref1 r]
  have hlt := hl.lt
  have hlen : its.length = bs.length := by have h1 := rv.length; have h2 := Paired.length pr; omega
  refine call_all_walk (iterS hl ⟨_, _, _, _, _, _, _, rfl, walks_S (A := X.A.in1) (I.ok.hd hc) _ a (Nat.ne_of_lt hlt) k its.toArray, ⟨?_, hl.at fun o e => Heap.get?_push_of_some _ e⟩, truth_trs pr rv, fun h' tk hk => ?_⟩)
  · cases k <;> exact ⟨_, Heap.get?_push_size _ rfl, rfl, rfl⟩
  · refine ⟨.bl _, H, I.kept fun b o eo => hk b o (fun hmem => ?_) (Heap.get?_push_of_some _ eo), ?_, q⟩
    · rcases List.mem_cons.mp hmem with e1 | hmem
      · exact absurd (e1 ▸ Heap.lt_size eo) (Nat.lt_irrefl _)
      · cases hmem
    · show Value.bool _ = Value.bool _
      rw [← all_range', List.size_toArray, hlen]
noncomputable def allT : D → Res D
  | .lst ds => match trsD ds with
    | some bs => .ok (.bl (bs.all id))
    | none => .bad
  | .tup ds => match trsD ds with
    | some bs => .ok (.bl (bs.all id))
    | none => .bad
  | _ => .bad
theorem b_allT (hc : X.calm = true) (hm : X.mg "all" = none) : BlM X "all" .S (one allT) := BlM.b hm boot_all' (cr_allT hc) (ne_one (fun d e z => by unfold allT at z; split at z <;> (try split at z) <;> cases z)) (cal_one fun F H x a d Q s ra e q => by
  unfold allT at e
  split at e
  · split at e <;> cases e
    rename_i bs h
    obtain ⟨p, vs, rfl, h1, r1⟩ := ra.lst s
    exact ⟨true, p, vs, bs, rfl, .of h1, trs_rep r1 h, q _ F H (Grow.refl s) (Rep.bl _)⟩
  · split at e <;> cases e
    rename_i bs h
    obtain ⟨p, vs, rfl, h1, r1⟩ := ra.tup s
    exact ⟨false, p, vs, bs, rfl, h1, trs_rep r1 h, q _ F H (Grow.refl s) (Rep.bl _)⟩
  · cases e)
end
end Mir
namespace Mir
open PySem PySem.Spec PyProof.Rows L2
variable [Tn]
noncomputable def getK : List D → List D → NestedKey → Option D
  | k :: ks, v :: vs, q => if keyOf k = some q then some v else getK ks vs q
  | _, _, _ => none
noncomputable def hasK (ks : List D) (q : NestedKey) : Bool := ks.any fun k => decide (keyOf k = some q)
noncomputable def repK : List D → List D → NestedKey → D → List D
  | k :: ks, v :: vs, q, x => (if keyOf k = some q then x else v) :: repK ks vs q x
  | _, _, _, _ => []
/-- in its place, or at the end -/
noncomputable def setK (ks vs : List D) (kd : D) (q : NestedKey) (x : D) : List D × List D := if hasK ks q = true then (ks, repK ks vs q x) else (ks ++ [kd], vs ++ [x])
/-- a tuple as a key -/
noncomputable def keyT (d : D) : Option NestedKey := match d with
  | .tup xs => match keyOf (.tup xs) with
    | some q => if q.depth ≤ 8 then some q else none
    | none => none
  | _ => none
theorem keyT_some {d : D} {q : NestedKey} (h : keyT d = some q) : (∃ xs, d = .tup xs) ∧ keyOf d = some q ∧ q.depth ≤ 8 := by
  unfold keyT at h
  split at h
  · split at h
    · rename_i e
      split at h
      · rename_i hd
        cases h
        exact ⟨⟨_, rfl⟩, e, hd⟩
      · cases h
    · cases h
  · cases h
section
variable {G : GC} {F H : Hp}
noncomputable abbrev EN := NestedKey × Addr × Value
theorem getK_at {q : NestedKey} : ∀ {xs : List EN} {ws : List V} {ks vs : List D}, Vals ws (xs.map (·.2.2)) → ks.map keyOf = xs.map (fun x => some x.1) → RepAll G F ws vs →
    (getK ks vs q = none ∧ atKey xs q = none) ∨ ∃ d e v, getK ks vs q = some d ∧ atKey xs q = some e ∧ RelV v e.2 ∧ Rep G F v d
  | [], _, ks, _, wv, ke, vr => by
    cases ks with
    | nil => exact .inl ⟨by unfold getK; rfl, rfl⟩
    | cons k ks => cases ke
  | x :: xs, _, ks, _, wv, ke, vr => by
    cases ks with
    | nil => cases ke
    | cons k ks =>
      rw [List.map_cons, List.map_cons, List.cons.injEq] at ke
      cases wv with
      | cons r1 rt =>
        cases vr with
        | cons p1 pt =>
          by_cases h : x.1 = q
          · refine .inr ⟨_, x.2, _, ?_, ?_, r1, p1⟩
            · rw [getK, if_pos (by rw [ke.1, h])]
            · simp [atKey, List.find?_cons, h]
          · have e1 : ∀ v vs', getK (k :: ks) (v :: vs') q = getK ks vs' q := fun v vs' => by rw [getK, if_neg (by rw [ke.1]; intro z; exact h (Option.some.inj z))]
            have e2 : atKey (x :: xs) q = atKey xs q := by simp [atKey, List.find?_cons, h]
            rw [e1, e2]
            exact getK_at rt ke.2 pt
theorem hasK_at {q : NestedKey} : ∀ {xs : List EN} {ks : List D}, ks.map keyOf = xs.map (fun x => some x.1) → hasK ks q = (atKey xs q).isSome
  | [], ks, ke => by
    cases ks with
    | nil => rfl
    | cons k ks => cases ke
  | x :: xs, ks, ke => by
    cases ks with
    | nil => cases ke
    | cons k ks =>
      rw [List.map_cons, List.map_cons, List.cons.injEq] at ke
      have ih := hasK_at (q := q) ke.2
      unfold hasK at ih ⊢
      rw [List.any_cons, ih, ke.1]
      by_cases h : x.1 = q
      · simp [atKey, List.find?_cons, h]
      · have z : ¬ (some x.1 = some q) := fun z => h (Option.some.inj z)
        simp [atKey, List.find?_cons, h, z]
/-- a table in the heap -/
structure DR (G : GC) (F : Hp) (xs : List EN) (ws : List V) (ks vs : List D) : Prop where
  wv : Vals ws (xs.map (·.2.2))
  kr : RepAll G F (xs.map fun x => V.ref x.2.1) ks
  ke : ks.map keyOf = xs.map (fun x => some x.1)
  vr : RepAll G F ws vs
theorem DR.mono {F' : Hp} {xs : List EN} {ws : List V} {ks vs : List D} (h : DR G F xs ws ks vs) (s : Same F F') : DR G F' xs ws ks vs := ⟨h.wv, h.kr.mono s, h.ke, h.vr.mono s⟩
theorem DR.len {xs : List EN} {ws : List V} {ks vs : List D} (h : DR G F xs ws ks vs) : xs.length = ks.length := by have := congrArg List.length h.ke; simpa using this.symm
theorem DR.nil : DR G F [] [] [] [] := ⟨.nil, .nil, rfl, .nil⟩
theorem DR.tail {x : EN} {xs : List EN} {w : V} {ws : List V} {k v : D} {ks vs : List D} (h : DR G F (x :: xs) (w :: ws) (k :: ks) (v :: vs)) : DR G F xs ws ks vs ∧ RelV w x.2.2 ∧ Rep G F (.ref x.2.1) k ∧ keyOf k = some x.1 ∧ Rep G F w v := by
  obtain ⟨h1, h2, h3, h4⟩ := h
  rw [List.map_cons, List.map_cons, List.cons.injEq] at h3
  cases h1 with
  | cons a b =>
    cases h2 with
    | cons c d =>
      cases h4 with
      | cons e f => exact ⟨⟨b, d, h3.2, f⟩, a, c, h3.1, e⟩
theorem DR.cons {x : EN} {xs : List EN} {w : V} {ws : List V} {k v : D} {ks vs : List D} (h : DR G F xs ws ks vs) (a : RelV w x.2.2) (b : Rep G F (.ref x.2.1) k) (c : keyOf k = some x.1) (d : Rep G F w v) : DR G F (x :: xs) (w :: ws) (k :: ks) (v :: vs) :=
  ⟨.cons a h.wv, .cons b h.kr, by rw [List.map_cons, List.map_cons, c, h.ke], .cons d h.vr⟩
theorem DR.shape {xs : List EN} {ws : List V} {ks vs : List D} (h : DR G F xs ws ks vs) : (xs = [] ∧ ws = [] ∧ ks = [] ∧ vs = []) ∨ ∃ x xs' w ws' k ks' v vs', xs = x :: xs' ∧ ws = w :: ws' ∧ ks = k :: ks' ∧ vs = v :: vs' := by
  obtain ⟨h1, h2, h3, h4⟩ := h
  cases xs with
  | nil => cases h1; cases h2; cases h4; exact .inl ⟨rfl, rfl, rfl, rfl⟩
  | cons x xs =>
    cases h1
    cases h2
    cases h4
    exact .inr ⟨_, _, _, _, _, _, _, _, rfl, rfl, rfl, rfl⟩
theorem DR.snoc {x : EN} {w : V} {k v : D} (a : RelV w x.2.2) (b : Rep G F (.ref x.2.1) k) (c : keyOf k = some x.1) (d : Rep G F w v) : ∀ {xs : List EN} {ws : List V} {ks vs : List D}, DR G F xs ws ks vs → DR G F (xs ++ [x]) (ws ++ [w]) (ks ++ [k]) (vs ++ [v])
  | xs, ws, ks, vs, h => by
    rcases h.shape with ⟨rfl, rfl, rfl, rfl⟩ | ⟨x', xs', w', ws', k', ks', v', vs', rfl, rfl, rfl, rfl⟩
    · exact DR.nil.cons a b c d
    · obtain ⟨t, e1, e2, e3, e4⟩ := h.tail
      exact (DR.snoc a b c d t).cons e1 e2 e3 e4
theorem DR.rep {q : NestedKey} {u : Value} {w : V} {d : D} (a : RelV w u) (b : Rep G F w d) : ∀ {xs : List EN} {ws : List V} {ks vs : List D}, DR G F xs ws ks vs → ∃ ws', DR G F (xs.map (putAt q u)) ws' ks (repK ks vs q d)
  | xs, ws, ks, vs, h => by
    rcases h.shape with ⟨rfl, rfl, rfl, rfl⟩ | ⟨x', xs', w', ws', k', ks', v', vs', rfl, rfl, rfl, rfl⟩
    · exact ⟨[], by rw [repK]; exact DR.nil; all_goals simp⟩
    · obtain ⟨t, e1, e2, e3, e4⟩ := h.tail
      obtain ⟨ws2, t2⟩ := DR.rep (q := q) a b t
      rw [repK, List.map_cons]
      by_cases hq : x'.1 = q
      · rw [if_pos (by rw [e3, hq])]
        have e : putAt q u x' = (x'.1, x'.2.1, u) := if_pos hq
        rw [e]
        exact ⟨w :: ws2, t2.cons a e2 e3 b⟩
      · rw [if_neg (by rw [e3]; intro z; exact hq (Option.some.inj z))]
        have e : putAt q u x' = x' := if_neg hq
        rw [e]
        exact ⟨w' :: ws2, t2.cons e1 e2 e3 e4⟩
theorem DR.set {q : NestedKey} {u : Value} {w : V} {b : Addr} {kd d : D} {xs : List EN} {ws : List V} {ks vs : List D} (h : DR G F xs ws ks vs) (a : RelV w u) (rb : Rep G F (.ref b) kd) (hk : keyOf kd = some q) (rw' : Rep G F w d) :
    ∃ ws', DR G F (storedH xs q b u) ws' (setK ks vs kd q d).1 (setK ks vs kd q d).2 := by
  unfold storedH setK
  rw [hasK_at h.ke]
  by_cases e : (atKey xs q).isSome = true
  · rw [if_pos e, if_pos e]
    exact DR.rep a rw' h
  · rw [if_neg e, if_neg e]
    exact ⟨_, DR.snoc (x := (q, b, u)) a rb hk rw' h⟩
theorem RdD.dr {v : V} {ks vs : List D} (s : Same F H) (h : RdD G F H v (.dic ks vs)) : ∃ a o xs ws, v = .ref a ∧ H a = some (.ext (isObj' a o)) ∧ (a == sysModules) = false ∧ DicO G o xs ∧ DR G F xs ws ks vs := by
  obtain ⟨a, o, xs, ws, rfl, h1, h2, h3, h4, h5, h6, h7⟩ := h.dic s
  exact ⟨a, o, xs, ws, rfl, h1, h2, h3, h4, h5, h6, h7⟩
theorem Own.dr {a : Addr} {o : Obj} {xs : List EN} {ws : List V} {ks vs : List D} (e : H a = some (.ext (isObj' a o))) (f : F a = none) (n : (a == sysModules) = false) (d : DicO G o xs) (r : DR G F xs ws ks vs) : Own G F H .flat (.ref a) (.dic ks vs) [a] :=
  .dic rfl e f n d r.wv r.kr r.ke (OwnAll.of_rep r.vr) (by simp)
end
section
variable {X : Cx} {pins : List (Addr × Obj)} {σ : L2.St} {H F : Hp} {s : Shared} {k : Nat}
theorem room8 (hr : Room k X.A) : (nestedKind X.prog X.w).room X.A.in1 := by
  have := hr.un
  show X.A.units + 1 + 8 < cLine
  omega
theorem dr_of (I : L2.Inv X pins σ H s) (sF : Same F H) {p : Addr} {o : Obj} {xs : List EN} {ws : List V} {ks vs : List D} (hp : H p = some (.ext (isObj' p o))) (dd : DicO (gOf X) o xs) (h : DR (gOf X) F xs ws ks vs) : s.heap.DictOfH (nestedKind X.prog X.w) p xs :=
  dic_of I sF hp dd h.kr h.ke
theorem key_is (I : L2.Inv X pins σ H s) (sF : Same F H) {b : Addr} {kd : D} {q : NestedKey} (r : Rep (gOf X) F (.ref b) kd) (h : keyT kd = some q) : (nestedKind X.prog X.w).is s.heap q b :=
  ⟨nested_of I sF r (keyT_some h).2.1 rfl, (keyT_some h).2.2⟩
theorem ext_ok {p : Addr} {o : Obj} {h' : Heap} {P : Program} {w : World} {H' : Hp} (e : h'.get? p = some o) : ObjOk P w H' h' p (.ext (isObj' p o)) := ⟨e, ⟨o, e⟩, fun _ _ q k => k _ q⟩
theorem dicO_nil {o : Obj} (h : o = { cls := .type "dict", data := .dict #[] }) {G : GC} : DicO G o [] := by
  subst h
  exact ⟨⟨rfl, rfl, rfl⟩, ⟨#[], 0, rfl, rfl⟩, List.nodup_nil, (fun _ z => nomatch z), Nat.zero_le _⟩
theorem re_dic0 {W : Wi} {pos : Pos} : RE X W (.O .flat) (.Dict [] [] pos) (fun _ => .ok (.dic [] [])) := ⟨fun pins s σ H Q I ⟨H0, F0, fp, F, r, m, o⟩ => by
  have hn : (s.heap.objs.size == sysModules) = false := beq_eq_false_iff_ne.mpr (Ne.symm (Nat.ne_of_lt I.big))
  have hf := I.hok.fresh (Nat.le_refl _)
  refine wpAny_Dict_empty ⟨.ref s.heap.objs.size, _, I.laid (a := s.heap.objs.size) (o := .ext (isObj' s.heap.objs.size { cls := .type "dict", data := .dict #[] })) (t' := s.toks) (fun _ _ q => Heap.get?_push_of_some _ q) (Nat.le_refl _) (ext_ok (Heap.get?_push_size _ rfl)), rfl, ?_⟩
  exact o F _ (Grow.own m.sub hf) _ ⟨[_], Own.dr upd_same (m.sub.free hf) hn (dicO_nil rfl) DR.nil, fun a ha => by rw [List.mem_singleton.mp ha]; exact hf⟩⟩
end
noncomputable def ixD (a i : D) : Res D := match a with
  | .dic ks vs => match keyT i with
    | some q => match getK ks vs q with
      | some d => .ok d
      | none => .bad
    | none => .bad
  | a => ixS a i
theorem ne_ixD : NoEr2 ixD := fun a b e z => by
  unfold ixD at z
  split at z
  · split at z
    · split at z <;> cases z
    · cases z
  · exact ne_ix _ _ _ z
section
variable {X : Cx} {W : Wi} {k : Nat} {a b c e : Expr} {fa fb fe : Env → Res D} {pos : Pos}
/-- a dict and a key -/
noncomputable def rDK (X : Cx) (P : List EN → NestedKey → Hp → Prop) : V → V → Hp → Prop := fun x y H => ∃ (F : Hp) (p b : Addr) (o : Obj) (xs : List EN) (ws : List V) (ks vs : List D) (kd : D) (q : NestedKey), x = .ref p ∧ y = .ref b ∧ Same F H ∧ H p = some (.ext (isObj' p o)) ∧ (p == sysModules) = false ∧
  DicO (gOf X) o xs ∧ DR (gOf X) F xs ws ks vs ∧ Rep (gOf X) F (.ref b) kd ∧ keyT kd = some q ∧ P xs q H
theorem ix_dic (hr : Room k X.A) : IxR X (fun x y H Q => rDK X (fun xs q H => ∃ e v, atKey xs q = some e ∧ RelV v e.2 ∧ Q v H) x y H) := by
  intro value slice pins s σ H x y u1 u2 Q I r1 r2 h hs
  obtain ⟨F, p, b, o, xs, ws, ks, vs, kd, q, rfl, rfl, sF, hp, hn, dd, dr, rk, hk, e, v, he, rv, hq⟩ := h
  cases r1
  cases r2
  exact tail_any (dr_of I sF hp dd dr).typeIs slot_dict_getitem.lookup (wpAny_getItem_heap (room8 hr) (key_is I sF rk hk) (dr_of I sF hp dd dr) he ⟨v, H, I.tok _, rv, hq⟩) hs
theorem key_ref {G : GC} {F H : Hp} {y : V} {kd : D} {q : NestedKey} (h : RdD G F H y kd) (hk : keyT kd = some q) : ∃ b, y = .ref b ∧ Rep G F (.ref b) kd := by
  obtain ⟨⟨xs, rfl⟩, _⟩ := keyT_some hk
  have z := h.tupS
  cases z with
  | tup h1 h2 => exact ⟨_, rfl, .tup h1 h2⟩
theorem ixD_ok : OpD (gOf X) (fun x y H Q => rIx X.K x y H Q ∨ rDK X (fun xs q H => ∃ e v, atKey xs q = some e ∧ RelV v e.2 ∧ Q v H) x y H) .R .R .S ixD := fun F H x y a b d Q Ha Hb s ka kb e k => by
  unfold ixD at e
  split at e
  · rename_i ks vs
    split at e
    · rename_i q hq
      split at e <;> cases e
      rename_i hg
      obtain ⟨p, o, xs, ws, rfl, h1, h2, h3, h4⟩ := RdD.dr s (show RdD (gOf X) F H x _ from ka)
      obtain ⟨b', rfl, rb⟩ := key_ref (show RdD (gOf X) F H y _ from kb) hq
      rcases getK_at (q := q) h4.wv h4.ke h4.vr with ⟨z, _⟩ | ⟨d', e', v, z1, z2, z3, z4⟩
      · rw [hg] at z; cases z
      · rw [hg] at z1
        cases z1
        exact .inr ⟨F, p, b', o, xs, ws, ks, vs, _, q, rfl, rfl, s, h1, h2, h3, h4, rb, hq, e', v, z2, z3, k v F H (Grow.refl s) z4⟩
    · cases e
  · exact .inl (ix_ok F H x y _ b d Q Ha Hb s ka kb e k)
theorem re_ix (hr : Room k X.A) (ha : RE X W .R a fa) (hb : RE X W .R b fb) (hs : PlainIx b := by intro _ _; rfl) : RE X W .S (.Subscript a b pos) (fun r => fa r >>= fun x => fb r >>= fun y => ixD x y) := (pe_ix (ix_seq.or (ix_dic hr)) ha hb hs).imp (t_op ixD_ok ne_ixD)
end
section
variable {G : GC} {J : L2.St → Prop} {H0 F0 F H : Hp} {fp : Nat → List Addr} {σ : L2.St} {r : Env}
theorem MS.dic (m : MS G J H0 F0 fp F σ H r) {i : Nat} {ks vs : List D} (h : r[i]? = some (.ow .flat (.dic ks vs))) : ∃ a o xs ws, σ[i]? = some (some (.ref a)) ∧ H a = some (.ext (isObj' a o)) ∧ (a == sysModules) = false ∧ DicO G o xs ∧ DR G F xs ws ks vs ∧ fp i = [a] := by
  obtain ⟨⟨v, h1, h2⟩, _⟩ := m.ow i _ _ h
  generalize fp i = A at h2
  cases h2 with
  | dic _ e _ z1 z2 z3 z4 z5 ra na =>
    obtain ⟨rfl, rr⟩ := ra.to_rep
    exact ⟨_, _, _, _, h1, e, z1, z2, ⟨z3, z4, z5, rr⟩, rfl⟩
end
section
variable {X : Cx} {W : Wi} {k : Nat} {kk : Kd} {e iv : Expr} {fe fi : Env → Res D} {pos ps p2 apos cpos : Pos} {x : Str}
theorem PSet.or {t t' : TSet} (h : PSet X t) (h' : PSet X t') : PSet X (fun o i v H Q => t o i v H Q ∨ t' o i v H Q) := by
  intro pins s σ H ov i v uo ui u Q I ro ri rv q
  rcases q with q | q
  · exact h pins s σ H ov i v uo ui u Q I ro ri rv q
  · exact h' pins s σ H ov i v uo ui u Q I ro ri rv q
end
end Mir
namespace Mir
open PySem PySem.Spec PyProof.Rows L2
variable [Tn]
section
variable {prog : Program} {w : World} {K : Type} [DecidableEq K] {knd : HeapKind prog w K} {A : Around} {E : Value → Shared → Prop} {s : Shared}
noncomputable def EqT (prog : Program) (w : World) (A : Around) (s : Shared) (y x : Value) (b : Bool) : Prop := ∀ (E : Value → Shared → Prop) (Q : Bool → Shared → Prop), Q b s → wpAny (model prog w) A (eqBool y x) Q E s
inductive HitsH (prog : Program) (w : World) (A : Around) (s : Shared) (ys : List (K × Addr × Value)) : List (K × Addr × Value) → Bool → Prop
  | nil : HitsH prog w A s ys [] true
  | miss {x : K × Addr × Value} {r : List (K × Addr × Value)} : atKey ys x.1 = none → HitsH prog w A s ys (x :: r) false
  | hit {x : K × Addr × Value} {e : Addr × Value} {r : List (K × Addr × Value)} {b : Bool} : atKey ys x.1 = some e → EqT prog w A s x.2.2 e.2 true → HitsH prog w A s ys r b → HitsH prog w A s ys (x :: r) b
  | not {x : K × Addr × Value} {e : Addr × Value} {r : List (K × Addr × Value)} : atKey ys x.1 = some e → EqT prog w A s x.2.2 e.2 false → HitsH prog w A s ys (x :: r) false
theorem atKey_of {xs : List (K × Addr × Value)} (hn : (xs.map (·.1)).Nodup) {j : Nat} {k : K} {p : Addr × Value} (h : xs[j]? = some (k, p)) : atKey xs k = some p := by
  induction xs generalizing j with
  | nil => simp at h
  | cons x xs ih =>
    rw [List.map_cons, List.nodup_cons] at hn
    cases j with
    | zero =>
      simp at h
      subst h
      simp [atKey, List.find?_cons]
    | succ j =>
      have h' : xs[j]? = some (k, p) := by simpa using h
      have ne : x.1 ≠ k := fun e => hn.1 (by rw [e]; exact List.mem_map.mpr ⟨(k, p), List.mem_of_getElem? h', rfl⟩)
      have := ih hn.2 h'
      simpa [atKey, List.find?_cons, ne] using this
theorem atKey_no {xs : List (K × Addr × Value)} {k : K} (h : ∀ (j : Nat) (p : Addr × Value), xs[j]? ≠ some (k, p)) : atKey xs k = none := by
  induction xs with
  | nil => rfl
  | cons x xs ih =>
    have ne : x.1 ≠ k := fun e => h 0 x.2 (by simp [← e])
    have := ih fun j p z => h (j + 1) p (by simpa using z)
    simpa [atKey, List.find?_cons, ne] using this
theorem samePairsH {nm : String} {a b : Addr} {xs ys : List (K × Addr × Value)} {r : Bool} {Q : Bool → Shared → Prop} (hu : knd.room A) (ha : (a == sysModules) = false) (hb : (b == sysModules) = false)
    (da : s.heap.DictOfH knd a xs) (db : s.heap.DictOfH knd b ys) (hits : xs.length = ys.length → HitsH prog w A s ys xs r) (h : Q (xs.length == ys.length && r) s) :
    wpAny (model prog w) A (Builtin.Dict.samePairs nm a b) Q E s := by
  obtain ⟨oa, es, ep, hoa, _, hda, hea, hia, hna⟩ := da
  obtain ⟨ob, fs, eq, hob, _, hdb, heb, hib, hnb⟩ := db
  have hla := size_of_entries hea
  have hlb := size_of_entries heb
  rw [← hla, ← hlb] at h hits
  unfold Builtin.Dict.samePairs Builtin.Dict.showsAll
  rw [if_neg (show ¬ (a == sysModules) = true by rw [ha]; decide), if_neg (show ¬ (b == sysModules) = true by rw [hb]; decide)]
  refine wpAny_bind (wpAny_pure (wpAny_bind (wpAny_pure (wpAny_bind (wpAny_dictEntries hoa hda ?_)))))
  dsimp only
  refine wpAny_bind (wpAny_dictEntries hob hdb ?_)
  by_cases hsz : es.size = fs.size
  case neg =>
    rw [if_pos (by simpa using hsz)]
    rw [beq_eq_false_iff_ne.mpr hsz, Bool.false_and] at h
    exact wpAny_bind (wpAny_rule (wpAny_pure h))
  case pos =>
    have h' : Q r s := by simpa [hsz] using h
    have hh := hits hsz
    rw [if_neg (by rw [hsz]; simp)]
    refine wpAny_bind (wpAny_dictEpoch hoa hda (wpAny_bind ?_))
    rw [Std.Legacy.Range.forIn_eq_forIn_range']; simp only [Std.Legacy.Range.size, Nat.sub_zero, Nat.add_sub_cancel, Nat.div_one]
    refine wpAny_forIn_list _ (fun rest q t => t = s ∧ q = (none, ()) ∧ ∃ i, rest = List.range' i (es.size - i) ∧ i ≤ es.size ∧ HitsH prog w A s ys (xs.drop i) r) _ ?_ ?_ _ _ ⟨rfl, rfl, 0, by simp, Nat.zero_le _, hh⟩
    · rintro j rest q t ⟨rfl, rfl, i, hr, hi, hp⟩
      have hlt : i < es.size := by
        rcases Nat.lt_or_ge i es.size with z | z
        · exact z
        · rw [Nat.sub_eq_zero_of_le z] at hr; simp at hr
      obtain ⟨rfl, hrest⟩ : j = i ∧ rest = List.range' (i + 1) (es.size - (i + 1)) := by
        rw [show es.size - i = (es.size - (i + 1)) + 1 by omega, List.range'_succ] at hr
        injection hr with h1 h2
        exact ⟨h1, h2⟩
      have hlx : j < xs.length := by rw [← hla]; exact hlt
      have hej : es[j]? = some (entryOfKey knd xs[j]) := by rw [entry_at hea j, List.getElem?_eq_getElem hlx]; rfl
      have hmem : xs[j] ∈ xs := List.getElem_mem hlx
      refine wpAny_bind (wpAny_dictEntries hoa hda ?_)
      rw [hej]
      rw [List.drop_eq_getElem_cons hlx] at hp
      generalize hx : xs[j] = x at hp hmem
      show wpAny _ _ (holding [Value.ref x.2.1, x.2.2] _ >>= _) _ _ _
      refine wpAny_bind (wpAny_holding (wpAny_bind (wpAny_dictFind_heap hu (hia x hmem) hob hdb heb hib hnb (fun no => ?_) fun jj p hp' => ?_)))
      · have hn := atKey_no no
        have er : r = false := by
          cases hp with
          | miss => rfl
          | hit z => rw [hn] at z; cases z
          | not z => rfl
        rw [er] at h'
        refine wpAny_pure ?_
        show wpAny _ _ (if (!false) = true then _ else _) _ _ _
        rw [if_pos (by decide)]
        exact wpAny_pure (wpAny_pure h')
      · have hs := atKey_of hnb hp'
        have hf : fs[jj]? = some (entryOfKey knd (x.1, p)) := by rw [entry_at heb jj, hp']; rfl
        refine wpAny_bind (wpAny_dictEntries hob hdb ?_)
        rw [hf]
        cases hp with
        | miss z => rw [hs] at z; cases z
        | not z hq =>
          rw [hs] at z
          cases z
          refine wpAny_holding (hq _ _ ?_)
          show wpAny _ _ (if (!false) = true then _ else _) _ _ _
          rw [if_pos (by decide)]
          exact wpAny_pure (wpAny_pure h')
        | hit z hq ht =>
          rw [hs] at z
          cases z
          refine wpAny_holding (hq _ _ ?_)
          show wpAny _ _ (if (!true) = true then _ else _) _ _ _
          rw [if_neg (by decide)]
          refine wpAny_bind (wpAny_dictEpoch hoa hda ?_)
          rw [if_neg (by simp)]
          exact wpAny_pure ⟨rfl, rfl, j + 1, hrest, hlt, ht⟩
    · rintro q t ⟨rfl, rfl, i, hr, hi, hp⟩
      have hin : i = es.size := by
        rcases Nat.lt_or_ge i es.size with z | z
        · rw [show es.size - i = (es.size - (i + 1)) + 1 by omega, List.range'_succ] at hr; exact nomatch hr
        · exact Nat.le_antisymm hi z
      refine wpAny_pure ?_
      rw [hin, hla, List.drop_length] at hp
      cases hp
      exact h'
theorem cmpH {op : CmpOp} {b : Bool} {a c : Addr} {xs ys : List (K × Addr × Value)} {r : Bool} {Q : Value → Shared → Prop} (ho : (op = .Eq ∧ b = true) ∨ (op = .NotEq ∧ b = false)) (hu : knd.room A.in1) (hv : A.units < cLine) (ha : (a == sysModules) = false) (hc : (c == sysModules) = false)
    (da : s.heap.DictOfH knd a xs) (dc : s.heap.DictOfH knd c ys) (hits : xs.length = ys.length → HitsH prog w A.in1 s ys xs r) (h : Q (.bool (if b = true then (xs.length == ys.length && r) else !(xs.length == ys.length && r))) s) :
    wpAny (model prog w) A (compareOp op (.ref a) (.ref c)) Q E s := by
  rcases ho with ⟨rfl, rfl⟩ | ⟨rfl, rfl⟩
  · refine wpAny_richCompare_same_room (op := .Eq) da.typeIs dc.typeIs PySem.F.slot_dict_eq (wpAny_call_entry PySem.F.slot_dict_eq da.typeIs PySem.F.entry_dict_eq ?_ (PySem.F.args_dict_eq_2 _ _)) hv
    show wpAny _ _ (Builtin.Dict.dictSlotArgs "__eq__" ⟨[.ref a, .ref c], []⟩ >>= _) _ _ s
    unfold Builtin.Dict.dictSlotArgs
    refine wpAny_bind (wpAny_bind (wpAny_notOrdered_dict da.typeIs ?_))
    show wpAny _ _ (pure (Value.ref a, Value.ref c)) _ _ s
    refine wpAny_pure (wpAny_bind (wpAny_isInstance (T := "dict") dc.typeIs PySem.F.sub_dict_dict ?_))
    simp only [Bool.not_true, Bool.false_eq_true, if_false]; refine wpAny_bind (wpAny_pure (wpAny_bind (wpAny_pure (wpAny_bind (samePairsH hu ha hc da dc hits ?_)))))
    exact wpAny_pure ⟨_, rfl, ⟨(fun x => nomatch x), by simpa using h⟩⟩
  · refine wpAny_richCompare_same_room (op := .NotEq) da.typeIs dc.typeIs PySem.F.slot_dict_ne (wpAny_call_entry PySem.F.slot_dict_ne da.typeIs PySem.F.entry_dict_ne ?_ (PySem.F.args_dict_ne_2 _ _)) hv
    show wpAny _ _ (Builtin.Dict.dictSlotArgs "__ne__" ⟨[.ref a, .ref c], []⟩ >>= _) _ _ s
    unfold Builtin.Dict.dictSlotArgs
    refine wpAny_bind (wpAny_bind (wpAny_notOrdered_dict da.typeIs ?_))
    show wpAny _ _ (pure (Value.ref a, Value.ref c)) _ _ s
    refine wpAny_pure (wpAny_bind (wpAny_isInstance (T := "dict") dc.typeIs PySem.F.sub_dict_dict ?_))
    simp only [Bool.not_true, Bool.false_eq_true, if_false]; refine wpAny_bind (wpAny_pure (wpAny_bind (wpAny_pure (wpAny_bind (samePairsH hu ha hc da dc hits ?_)))))
    exact wpAny_pure ⟨_, rfl, ⟨(fun x => nomatch x), by simpa using h⟩⟩
end
/-- whether the values stand in the other table, too -/
noncomputable def sameK : List D → List D → List D → List D → Option Bool
  | k :: ks, v :: vs, ks2, vs2 => match keyOf k with
    | some q => match getK ks2 vs2 q with
      | none => some false
      | some u => match eqS v u with
        | .ok (.bl true) => sameK ks vs ks2 vs2
        | .ok (.bl false) => some false
        | _ => none
    | none => none
  | _, _, _, _ => some true
noncomputable def sameD (ks vs ks2 vs2 : List D) : Option Bool := if ks.length = ks2.length then sameK ks vs ks2 vs2 else some false
noncomputable def eqD (a b : D) : Res D := match a, b with
  | .dic ks vs, .dic ks2 vs2 => match sameD ks vs ks2 vs2 with
    | some b => .ok (.bl b)
    | none => .bad
  | a, b => eqS a b
noncomputable def neD (a b : D) : Res D := match a, b with
  | .dic ks vs, .dic ks2 vs2 => match sameD ks vs ks2 vs2 with
    | some b => .ok (.bl (!b))
    | none => .bad
  | a, b => neS a b
theorem ne_eqD : NoEr2 eqD := fun a b e z => by
  unfold eqD at z
  split at z
  · split at z <;> cases z
  · exact ne_eq _ _ _ z
theorem ne_neD : NoEr2 neD := fun a b e z => by
  unfold neD at z
  split at z
  · split at z <;> cases z
  · exact ne_ne _ _ _ z
section
variable {X : Cx} {pins : List (Addr × Obj)} {σ : L2.St} {H F : Hp} {s : Shared} {k : Nat}
theorem eqT_of (I : L2.Inv X pins σ H s) (sF : Same F H) (hr : X.A.units + 65 < cLine) {v u : V} {x y : Value} {d e : D} {b : Bool} (h : eqS d e = .ok (.bl b)) (rv : Rep (gOf X) F v d) (ru : Rep (gOf X) F u e) (hx : RelV v x) (hy : RelV u y) : EqT X.prog X.w X.A.in1 s x y b := by
  unfold eqS at h
  split at h
  · rename_i p q h1 h2
    split at h
    · rename_i hs
      injection h with h
      injection h with h
      subst h
      obtain ⟨as, r1⟩ := Dp.reads I p v x (rv.dp sF h1) hx
      obtain ⟨bs, r2⟩ := Dp.reads I q u y (ru.dp sF h2) hy
      have z := PySem.W.keq_at (A := X.A) r1 r2 hs.1 hs.2 (show X.A.units + 1 + 64 < cLine by omega)
      exact fun E Q hq => z X.prog X.w E Q hq
    · cases h
  · cases h
theorem hits_of (I : L2.Inv X pins σ H s) (sF : Same F H) (hr : X.A.units + 65 < cLine) {ys : List EN} {us : List V} {ks2 vs2 : List D} (h2 : DR (gOf X) F ys us ks2 vs2) : ∀ {xs : List EN} {ws : List V} {ks vs : List D} {b : Bool}, DR (gOf X) F xs ws ks vs → sameK ks vs ks2 vs2 = some b → HitsH X.prog X.w X.A.in1 s ys xs b
  | xs, ws, ks, vs, b, h, e => by
    rcases h.shape with ⟨rfl, rfl, rfl, rfl⟩ | ⟨x, xs', w, ws', k, ks', v, vs', rfl, rfl, rfl, rfl⟩
    · simp [sameK] at e
      subst e
      exact .nil
    · obtain ⟨t, e1, e2, e3, e4⟩ := h.tail
      rw [sameK, e3] at e
      simp only at e
      rcases getK_at (q := x.1) h2.wv h2.ke h2.vr with ⟨z1, z2⟩ | ⟨d, en, u, z1, z2, z3, z4⟩
      · rw [z1] at e
        cases e
        exact .miss z2
      · rw [z1] at e
        simp only at e
        split at e
        · rename_i he
          exact .hit z2 (eqT_of I sF hr he e4 z4 e1 z3) (hits_of I sF hr h2 t e)
        · rename_i he
          cases e
          exact .not z2 (eqT_of I sF hr he e4 z4 e1 z3)
        · cases e
noncomputable def rDD (X : Cx) (P : Bool → Hp → Prop) : V → V → Hp → Prop := fun x y H => ∃ (F : Hp) (p p2 : Addr) (o o2 : Obj) (xs ys : List EN) (ws us : List V) (ks vs ks2 vs2 : List D) (b : Bool), x = .ref p ∧ y = .ref p2 ∧ Same F H ∧ H p = some (.ext (isObj' p o)) ∧ (p == sysModules) = false ∧
  DicO (gOf X) o xs ∧ DR (gOf X) F xs ws ks vs ∧ H p2 = some (.ext (isObj' p2 o2)) ∧ (p2 == sysModules) = false ∧ DicO (gOf X) o2 ys ∧ DR (gOf X) F ys us ks2 vs2 ∧ sameD ks vs ks2 vs2 = some b ∧ P b H
theorem op_cmpH (hr : Room k X.A) {op : CmpOp} {c : Bool} (ho : (op = .Eq ∧ c = true) ∨ (op = .NotEq ∧ c = false)) : OpR X (compareOp op) (fun x y H Q => rDD X (fun b H => Q (.bl (if c = true then b else !b)) H) x y H) := by
  intro pins s σ H x y u1 u2 Q I r1 r2 h
  obtain ⟨F, p, p2, o, o2, xs, ys, ws, us, ks, vs, ks2, vs2, b, rfl, rfl, sF, hp, hn, dd, dr, hp2, hn2, dd2, dr2, hb, hq⟩ := h
  cases r1
  cases r2
  have hu := hr.un
  unfold sameD at hb
  rw [← dr.len, ← dr2.len] at hb
  split at hb
  · rename_i hl
    refine cmpH ho (room8 hr) (by omega) hn hn2 (dr_of I sF hp dd dr) (dr_of I sF hp2 dd2 dr2) (fun _ => hits_of I sF (by omega) dr2 dr hb) ⟨.bl (if c = true then b else !b), H, I, ?_, hq⟩
    rw [hl, beq_self_eq_true, Bool.true_and] <;> rfl
  · rename_i hl
    cases hb
    refine cmpH (r := true) ho (room8 hr) (by omega) hn hn2 (dr_of I sF hp dd dr) (dr_of I sF hp2 dd2 dr2) (fun z => (hl z).elim) ⟨.bl (if c = true then false else !false), H, I, ?_, hq⟩
    rw [beq_eq_false_iff_ne.mpr hl, Bool.false_and] <;> rfl
theorem eqD_ok' : OpD (gOf X) (fun x y H Q => rEqD X.K x y H Q ∨ rDD X (fun b H => Q (.bl (if true = true then b else !b)) H) x y H) .R .R .S eqD := fun F H x y a b d Q Ha Hb s ka kb e k => by
  unfold eqD at e
  split at e
  · split at e <;> cases e
    rename_i hb
    obtain ⟨p, o, xs, ws, rfl, h1, h2, h3, h4⟩ := RdD.dr s (show RdD (gOf X) F H x _ from ka)
    obtain ⟨p', o', xs', ws', rfl, h1', h2', h3', h4'⟩ := RdD.dr s (show RdD (gOf X) F H y _ from kb)
    exact .inr ⟨F, p, p', o, o', xs, xs', ws, ws', _, _, _, _, _, rfl, rfl, s, h1, h2, h3, h4, h1', h2', h3', h4', hb, k _ F H (Grow.refl s) (Rep.bl _)⟩
  · exact .inl (eq_ok F H x y _ _ d Q Ha Hb s ka kb e k)
theorem neD_ok' : OpD (gOf X) (fun x y H Q => rNeD X.K x y H Q ∨ rDD X (fun b H => Q (.bl (if false = true then b else !b)) H) x y H) .R .R .S neD := fun F H x y a b d Q Ha Hb s ka kb e k => by
  unfold neD at e
  split at e
  · split at e <;> cases e
    rename_i hb
    obtain ⟨p, o, xs, ws, rfl, h1, h2, h3, h4⟩ := RdD.dr s (show RdD (gOf X) F H x _ from ka)
    obtain ⟨p', o', xs', ws', rfl, h1', h2', h3', h4'⟩ := RdD.dr s (show RdD (gOf X) F H y _ from kb)
    exact .inr ⟨F, p, p', o, o', xs, xs', ws, ws', _, _, _, _, _, rfl, rfl, s, h1, h2, h3, h4, h1', h2', h3', h4', hb, k _ F H (Grow.refl s) (Rep.bl _)⟩
  · exact .inl (ne_ok F H x y _ _ d Q Ha Hb s ka kb e k)
theorem c_eq (hr : Room k X.A) : Cmp X .Eq eqD := ⟨⟨_, (op_eqD hr.units).or (op_cmpH hr (.inl ⟨rfl, rfl⟩)), eqD_ok'⟩, ne_eqD⟩
theorem c_ne (hr : Room k X.A) : Cmp X .NotEq neD := ⟨⟨_, (op_neD hr.units).or (op_cmpH hr (.inr ⟨rfl, rfl⟩)), neD_ok'⟩, ne_neD⟩
end
/-- the keys in their order -/
noncomputable def Itdk (d : Addr) (o : Obj) (xs : List EN) : It := ⟨fun i H => H d = some (.ext (isObj' d o)) ∧ i < xs.length, fun i H x H' => H' = H ∧ ∃ e, xs[i]? = some e ∧ x = .ref e.2.1, fun i H => H d = some (.ext (isObj' d o)) ∧ xs.length ≤ i⟩
theorem ent_at {K : Type} [DecidableEq K] {P : Program} {w : World} {knd : HeapKind P w K} {es : Array DictEntry} {xs : List (K × Addr × Value)} (he : es.toList = xs.map (entryOfKey knd)) {i : Nat} (hi : i < es.size) : ∃ e, xs[i]? = some e ∧ es[i].key = .ref e.2.1 ∧ es[i].val = e.2.2 := by
  have h1 := entry_at he i
  rw [Array.getElem?_eq_getElem hi] at h1
  cases hx : xs[i]? with
  | none => rw [hx] at h1; cases h1
  | some e =>
    rw [hx] at h1
    have h2 : es[i] = entryOfKey knd e := Option.some.inj h1
    exact ⟨e, rfl, by rw [h2]; rfl, by rw [h2]; rfl⟩
section
variable {P : Program} {w : World} {K : PySem.W.Frag} {tg : Expr} {d : Addr} {o : Obj} {es : Array DictEntry} {ep : Nat} {xs : List EN} {ws : List V}
theorem ext_raw {X : Cx} {pins : List (Addr × Obj)} {σ : L2.St} {H : Hp} {s : Shared} (I : L2.Inv X pins σ H s) (h : H d = some (.ext (isObj' d o))) (hx : o.ExactDict) (hd : o.data = .dict es ep) : s.heap.DictRaw d es ep := by
  obtain ⟨e, _⟩ := (show ObjOk X.prog X.w H s.heap d (.ext (isObj' d o)) from I.hok d _ h)
  exact ⟨o, e, hx, hd⟩
theorem turn_dk (it : Addr) (hx : o.ExactDict) (hod : o.data = .dict es ep) (he : es.toList = xs.map (entryOfKey (nestedKind P w))) : Turn P w K tg (Itdk d o xs) [it] it (fun i h => h.IsKeyIter it d i es.size ep) where
  mem := by simp
  obj := fun i h st b hb => by
    have e : b = it := by simpa using hb
    subst e
    obtain ⟨oi, e, c, dd⟩ := st
    exact ⟨oi, e, fun v z => by rw [dd] at z; cases z⟩
  keep := fun i h h' st k => st.at fun oi e => k it (by simp) oi e
  item := by
    intro X hP hw hK hc i pins s σ H E I hf st ⟨hd, hi⟩
    subst hP hw hK
    obtain ⟨f0, f1, f2, f3, f4, f5⟩ := hf it (by simp)
    have hsz := size_of_entries he
    have hi' : i < es.size := by rw [hsz]; exact hi
    obtain ⟨e, e1, e2, _⟩ := ent_at he hi'
    refine wpAny_pyNext_keys_item_raw st (ext_raw I hd hx hod) hi' fun h' st' sb => ?_
    have I1 : Inv X pins σ H { s with heap := h' } := I.turned (t' := s.toks) (fun b ob hb q => (sb.2 b hb).trans q) f0 f1 f3 f4 f5
    obtain ⟨oi, q, c, dd⟩ := id st'
    exact ⟨es[i].key, rfl, go_of (s := { s with heap := h' }) q c dd (by decide) ⟨.ref e.2.1, H, I1, e2, ⟨rfl, e, e1, rfl⟩, st', fun b hb => (hf b hb).1⟩⟩
  done := by
    intro X hP hw hK hc i pins s σ H E I hf st ⟨hd, hi⟩
    subst hP hw hK
    obtain ⟨f0, f1, f2, f3, f4, f5⟩ := hf it (by simp)
    have hsz := size_of_entries he
    exact wpAny_pyNext_keys_end_raw (I.ok.hd hc) st (ext_raw I hd hx hod) (by rw [hsz]; exact hi) fun h' eb => ⟨rfl, I.turned (t' := s.toks) (fun b ob hb e => eb b ob hb e) f0 f1 f3 f4 f5⟩
  self := fun A i s Q E st h => wpAny_pyIter_keyiter st h
end
/-- the dict is there -/
noncomputable def iDk (X : Cx) (J : Addr → Obj → List EN → List V → It) (td : TE) : TI := fun σ H R => td σ H fun x H1 => ∃ (F : Hp) (d : Addr) (o : Obj) (xs : List EN) (ws : List V) (ks vs : List D), x = .ref d ∧ Same F H1 ∧ H1 d = some (.ext (isObj' d o)) ∧ (d == sysModules) = false ∧ DicO (gOf X) o xs ∧ DR (gOf X) F xs ws ks vs ∧ R (J d o xs ws) H1
section
variable {X : Cx} {W : Wi} {tg e : Expr} {td : TE} {fe : Env → Res D} {apos cpos : Pos}
theorem pi_dk (he : PE X e td) : PI X tg e (iDk X (fun d o xs _ => Itdk d o xs) td) := by
  refine ⟨fun pins s σ H R I h => thn (he.run pins s σ H _ I h) fun u s1 ⟨x, H1, I1, rx, F', d, o, xs, ws, ks, vs, ex, sF, hd, hn, dd, dr, q⟩ => ?_⟩
  subst ex
  obtain rfl : u = Value.ref d := rx
  obtain ⟨es, ep, h1, h2⟩ := dd.dat
  refine wpAny_pyIter_dict_raw hn (ext_raw I1 hd dd.ex h1) (pi_one (tk := s1.toks) I1 _ (turn_dk _ dd.ex h1 h2) ⟨_, Heap.get?_push_size _ rfl, rfl, rfl⟩ q)
theorem WalkD.dk {G : GC} {F F1 B : Hp} {d : Addr} {o : Obj} {xs : List EN} {ws : List V} {ks vs : List D} (h : B d = some (.ext (isObj' d o))) (dr : DR G F xs ws ks vs) : WalkD G F B (Itdk d o xs) ks := ⟨fun i H hi s => ⟨s _ _ h, by rw [dr.len]; exact hi⟩, fun H s => ⟨s _ _ h, by rw [dr.len]; exact Nat.le_refl _⟩, fun i F2 H2 x H3 hi s1 s2 s3 y => by
  obtain ⟨rfl, e, he, rfl⟩ := y
  obtain ⟨kd, h1, h2⟩ := dr.kr.getV (i := i) (v := .ref e.2.1) (by rw [List.getElem?_map, he]; rfl)
  exact ⟨F2, kd, Grow.refl s2, h1, h2.mono s1⟩⟩
/-- the pairs of a table -/
noncomputable def pairsK (ks vs : List D) : List D := (ks.zip vs).map fun p => .tup [p.1, p.2]
noncomputable def itemsD (d : D) : Res (List D) := match d with
  | .dic ks _ => .ok ks
  | d => itemsS d
@[simp] theorem itemsD_lst (xs : List D) : itemsD (.lst xs) = .ok xs := rfl
@[simp] theorem itemsD_tup (xs : List D) : itemsD (.tup xs) = .ok xs := rfl
@[simp] theorem itemsD_scr (xs : List Int) : itemsD (.scr xs) = .ok (xs.map D.int) := rfl
@[simp] theorem itemsD_str (z : Str) : itemsD (.str z) = .ok (signsOf z) := rfl
@[simp] theorem itemsD_dic (ks vs : List D) : itemsD (.dic ks vs) = .ok ks := rfl
theorem re_iter (he : RE X W .S e fe) : RI X W true tg e (fun r => fe r >>= itemsD) := by
  refine ⟨fun pins s σ H R I ⟨H0, F0, fp, F, r, m, o⟩ => ?_⟩
  have o : Out (gOf X) W σ F H _ (fe r >>= itemsD) := o
  cases ef : fe r with
  | er x => exact (re_iterS he).run pins s σ H R I ⟨H0, F0, fp, F, r, m, by show Out _ _ _ _ _ _ (fe r >>= itemsS); rw [ef] at o ⊢; exact o⟩
  | bad => rw [ef] at o; exact o.elim
  | ok d =>
    rw [ef] at o
    have o0 : itemsD d = itemsS d → Out (gOf X) W σ F H _ (fe r >>= itemsS) := fun z => by
      rw [ef]
      have o1 : Out (gOf X) W σ F H _ (itemsD d) := o
      rw [z] at o1
      exact o1
    cases d with
    | dic ks vs => exact (pi_dk he).run pins s σ H R I ⟨H0, F0, fp, F, r, m, by
        rw [ef]
        intro F' H' gr v kv
        have kv' : Rep (gOf X) F' v (.dic ks vs) := kv
        cases kv' with
        | dic h1 z1 z2 z3 z4 z5 z6 => exact ⟨F', _, _, _, _, ks, vs, rfl, gr.sub, gr.sub _ _ h1, z1, z2, ⟨z3, z4, z5, z6⟩, o F' H' gr _ (WalkD.dk (F1 := F') h1 ⟨z3, z4, z5, z6⟩)⟩⟩
    | _ => exact (re_iterS he).run pins s σ H R I ⟨H0, F0, fp, F, r, m, o0 rfl⟩
noncomputable def valsD (d : D) : Res (List D) := match d with
  | .dic _ vs => .ok vs
  | _ => .bad
noncomputable def pairsD (d : D) : Res (List D) := match d with
  | .dic ks vs => .ok (pairsK ks vs)
  | _ => .bad
@[simp] theorem valsD_dic (ks vs : List D) : valsD (.dic ks vs) = .ok vs := rfl
@[simp] theorem pairsD_dic (ks vs : List D) : pairsD (.dic ks vs) = .ok (pairsK ks vs) := rfl
end
end Mir
namespace Mir
open PySem PySem.Spec PyProof.Rows L2
variable [Tn]
theorem okQ_dic {n : Nat} {ks vs : List D} : okQ n (.dic ks vs) = false := by cases n <;> rfl
theorem eqD_S {a b : D} (h : ∀ ks vs, a ≠ .dic ks vs) : eqD a b = eqS a b := by
  unfold eqD
  split
  · exact absurd rfl (h _ _)
  · rfl
theorem neD_S {a b : D} (h : ∀ ks vs, a ≠ .dic ks vs) : neD a b = neS a b := by
  unfold neD
  split
  · exact absurd rfl (h _ _)
  · rfl
theorem eqD_ok {a b : D} (ha : okQ 64 a = true) (hb : okQ 64 b = true) : eqD a b = .ok (.bl (eqQ a b)) := by
  rw [eqD_S (fun ks vs e => by subst e; rw [okQ_dic] at ha; cases ha)]
  exact eqS_ok ha hb
theorem neD_ok {a b : D} (ha : okQ 64 a = true) (hb : okQ 64 b = true) : neD a b = .ok (.bl (!eqQ a b)) := by
  rw [neD_S (fun ks vs e => by subst e; rw [okQ_dic] at ha; cases ha)]
  exact neS_ok ha hb
@[simp] theorem eqD_int (i j : Int) : eqD (.int i) (.int j) = .ok (.bl (decide (i = j))) := eqS_int i j
@[simp] theorem neD_int (i j : Int) : neD (.int i) (.int j) = .ok (.bl (!decide (i = j))) := neS_int i j
theorem eqD_tI (xs ys : List Int) : eqD (tuI xs) (tuI ys) = .ok (.bl (decide (xs = ys))) := by
  rw [eqD_ok (by simp) (by simp), eqQ, eqQs_ints]
@[simp] theorem ixD_lst (xs : List D) (i : Int) : ixD (.lst xs) (.int i) = match atI xs i with
    | some d => .ok d
    | none => .bad := rfl
@[simp] theorem ixD_tup (xs : List D) (i : Int) : ixD (.tup xs) (.int i) = match atI xs i with
    | some d => .ok d
    | none => .bad := rfl
@[simp] theorem ixD_scr (ns : List Int) (i : Int) : ixD (.scr ns) (.int i) = match atI ns i with
    | some n => .ok (.int n)
    | none => .bad := rfl
theorem atI_nat {α : Type} (xs : List α) (i : Nat) (h : i < xs.length) : atI xs (i : Int) = xs[i]? := by
  unfold atI ixN
  rw [if_pos (Int.natCast_nonneg i), if_pos (by omega)]
  rfl
theorem atI_int {α : Type} (xs : List α) (i : Int) (h0 : 0 ≤ i) (h : i < xs.length) : atI xs i = xs[i.toNat]? := by
  have e : i = ((i.toNat : Nat) : Int) := by omega
  rw [e, atI_nat xs i.toNat (by omega)]
  rfl
theorem atI_getD {ns : List Int} {i : Int} (h0 : 0 ≤ i) (h1 : i < ns.length) : atI ns i = some (ns.getD i.toNat 0) := by
  rw [atI_int ns i h0 h1, List.getD_eq_getElem?_getD, List.getElem?_eq_getElem (by omega)]
  rfl
@[simp] theorem bits0 : bits 0 = 0 := rfl
theorem bits_lt {i : Int} {n : Nat} (hn : 0 < n) (h : i.natAbs < 2 ^ n) : bits i < n := by
  unfold bits
  by_cases h0 : i.natAbs = 0
  · rw [h0]; simpa using hn
  · exact (Nat.log2_lt h0).mpr h
theorem lcD_gmap {α : Type} {g : D → Env → Res Env} {t : Env → Res Bool} {f : Env → Res D} {r : Env} (A : α → D) (F : α → D) : ∀ {xs : List α}, (∀ a ∈ xs, ∃ r1, g (A a) r = .ok r1 ∧ t r1 = .ok true ∧ f r1 = .ok (F a)) → lcD g t f r (xs.map A) = .ok (xs.map F)
  | [], _ => rfl
  | a :: xs, h => by
    obtain ⟨r1, h1, h2, h3⟩ := h a List.mem_cons_self
    rw [List.map_cons, lcD, h1]
    simp only [nE_ok, ok_bind, h2, if_true, h3, lcD_gmap A F fun d hd => h d (List.mem_cons_of_mem _ hd)]
    rfl
/-- one name, over anything -/
theorem lcD_one {α : Type} {t : Env → Res Bool} {f : Env → Res D} {r : Env} {i : Nat} (A : α → D) (F : α → D) {xs : List α} (h : ∀ a ∈ xs, t (r.set i (.sh (A a))) = .ok true ∧ f (r.set i (.sh (A a))) = .ok (F a)) : lcD (nameG i) t f r (xs.map A) = .ok (xs.map F) :=
  lcD_gmap A F fun a ha => ⟨_, rfl, h a ha⟩
theorem lcD_ints {t : Env → Res Bool} {f : Env → Res D} {r : Env} {i : Nat} (F : Int → D) {xs : List Int} (h : ∀ a ∈ xs, t (r.set i (.sh (.int a))) = .ok true ∧ f (r.set i (.sh (.int a))) = .ok (F a)) : lcD (nameG i) t f r (xs.map D.int) = .ok (xs.map F) := lcD_one D.int F h
theorem rangeL_nat (n : Nat) : rangeL 0 n = (List.range n).map fun i : Nat => D.int i := by
  unfold rangeL
  exact List.map_congr_left fun i _ => by rw [Int.zero_add]
theorem lcD_range {t : Env → Res Bool} {f : Env → Res D} {r : Env} {i : Nat} (F : Nat → D) {n : Nat} (h : ∀ k, k < n → t (r.set i (.sh (.int (k : Nat)))) = .ok true ∧ f (r.set i (.sh (.int (k : Nat)))) = .ok (F k)) : lcD (nameG i) t f r (rangeL 0 n) = .ok ((List.range n).map F) := by
  rw [rangeL_nat]
  exact lcD_one (fun k : Nat => D.int k) F fun k hk => h k (List.mem_range.mp hk)
theorem trsD_bls : ∀ bs : List Bool, trsD (bs.map D.bl) = some bs
  | [] => rfl
  | b :: bs => by rw [List.map_cons, trsD, trsD_bls bs]; rfl
theorem allT_bls (bs : List Bool) : allT (.lst (bs.map D.bl)) = .ok (.bl (bs.all id)) := by
  unfold allT
  simp only [trsD_bls]
@[simp] theorem atI0 {α : Type} (a : α) (xs : List α) : atI (a :: xs) 0 = some a := by
  rw [show (0 : Int) = ((0 : Nat) : Int) from rfl, atI_nat _ _ (by simp)]
  rfl
@[simp] theorem atI1 {α : Type} (a b : α) (xs : List α) : atI (a :: b :: xs) 1 = some b := by
  rw [show (1 : Int) = ((1 : Nat) : Int) from rfl, atI_nat _ _ (by simp)]
  rfl
@[simp] theorem atI2 {α : Type} (a b c : α) (xs : List α) : atI (a :: b :: c :: xs) 2 = some c := by
  rw [show (2 : Int) = ((2 : Nat) : Int) from rfl, atI_nat _ _ (by simp)]
  rfl
@[simp] theorem addD_tup (xs ys : List D) : addD (.tup xs) (.tup ys) = if xs.length + ys.length ≤ lim then .ok (.tup (xs ++ ys)) else .bad := rfl
@[simp] theorem addD_lst (xs ys : List D) : addD (.lst xs) (.lst ys) = if xs.length + ys.length ≤ lim then .ok (.lst (xs ++ ys)) else .bad := rfl
@[simp] theorem sliceD_tup (xs : List D) (lo hi : Option Int) : sliceD (.tup xs) lo hi = .ok (.tup (cutD xs lo hi)) := rfl
@[simp] theorem sliceD_lst (xs : List D) (lo hi : Option Int) : sliceD (.lst xs) lo hi = .ok (.lst (cutD xs lo hi)) := rfl
/-- names that one owns are shared ahead of a statement -/
noncomputable def frzAt (i : Nat) (g : Env → Oc) (r : Env) : Oc := g (freeze i r)
@[simp] theorem frzAt_eq (i : Nat) (g : Env → Oc) (r : Env) : frzAt i g r = g (freeze i r) := rfl
end Mir
namespace Mir
open PySem PySem.Spec PyProof.Rows L2
variable [Tn]
/-- data as keys -/
structure KeyE {α : Type} (E : α → D) (Q : α → NestedKey) : Prop where
  t : ∀ a, keyT (E a) = some (Q a)
  inj : ∀ a b, Q a = Q b → a = b
theorem KeyE.of {α : Type} {E : α → D} {Q : α → NestedKey} (K : KeyE E Q) (a : α) : keyOf (E a) = some (Q a) := (keyT_some (K.t a)).2.1
section
variable {α β : Type} [DecidableEq α]
noncomputable def dicA (E : α → D) (V : β → D) (l : List (α × β)) : D := .dic (l.map fun p => E p.1) (l.map fun p => V p.2)
variable {E : α → D} {V : β → D} {Q : α → NestedKey}
@[simp] theorem lenD_A (l : List (α × β)) : lenD (dicA E V l) = .ok (.int l.length) := by
  show Res.ok (D.int ((l.map fun p => E p.1).length : Nat)) = _
  rw [List.length_map]
@[simp] theorem itemsD_A (l : List (α × β)) : itemsD (dicA E V l) = .ok (l.map fun p => E p.1) := rfl
end
end Mir
namespace Mir
open PySem PySem.Spec PyProof.Rows L2
variable [Tn]
/-- a group by rounds -/
noncomputable abbrev gR (rs : List Int) : D := .obj 0 [tuI rs]
/-- rounds that make a group -/
structure OkR (rs : List Int) : Prop where
  two : ∀ n ∈ rs, 2 ≤ n
  len : rs.length ≤ 7
structure OkE (rs x : List Int) : Prop where
  len : x.length = rs.length
  at_ : ∀ p ∈ x.zip rs, 0 ≤ p.1 ∧ p.1 < p.2
theorem fld_rounds (rs : List Int) : fldD (plOf [0] "rounds") (gR rs) = .ok (tuI rs) := by
  have e : plOf [0] "rounds" 0 = some 0 := by kernel_rfl
  unfold fldD
  simp [e]
/-- the sum by rounds -/
noncomputable def putV (rs x y : List Int) : List Int := (x.zip (y.zip rs)).map fun p => (p.1 + p.2.1) % p.2.2
noncomputable def zeroV (rs : List Int) : List Int := rs.map fun _ => 0
theorem putV_len {rs x y : List Int} (h1 : x.length = rs.length) (h2 : y.length = rs.length) : (putV rs x y).length = rs.length := by simp [putV, h1, h2]
theorem put_el {rs x y : List Int} (h : OkR rs) (h1 : x.length = rs.length) (h2 : y.length = rs.length) : OkE rs (putV rs x y) := by
  refine ⟨putV_len h1 h2, fun p hp => ?_⟩
  obtain ⟨i, hi⟩ := List.getElem?_of_mem hp
  obtain ⟨g1, g2⟩ := List.getElem?_zip_eq_some.mp hi
  unfold putV at g1
  rw [List.getElem?_map, Option.map_eq_some_iff] at g1
  obtain ⟨q, hq, e⟩ := g1
  obtain ⟨_, q2⟩ := List.getElem?_zip_eq_some.mp hq
  obtain ⟨_, q3⟩ := List.getElem?_zip_eq_some.mp q2
  have en : q.2.2 = p.2 := Option.some.inj (q3.symm.trans g2)
  have t : (2 : Int) ≤ p.2 := h.two _ (List.of_mem_zip hp).2
  rw [← e, en]
  exact ⟨Int.emod_nonneg _ (by omega), Int.emod_lt_of_pos _ (by omega)⟩
theorem zero_el {rs : List Int} (h : OkR rs) : OkE rs (zeroV rs) := by
  refine ⟨by simp [zeroV], fun p hp => ?_⟩
  obtain ⟨q1, q2⟩ := List.of_mem_zip hp
  unfold zeroV at q1
  obtain ⟨n, _, e⟩ := List.mem_map.mp q1
  have t : (2 : Int) ≤ p.2 := h.two _ q2
  omega
/-- so many times -/
noncomputable def timesV (rs : List Int) (n : Int) (x : List Int) : List Int := (x.zip rs).map fun p => n * p.1 % p.2
/-- rounds that the program takes -/
structure OkG (rs : List Int) : Prop where
  ok : OkR rs
  most : ∀ n ∈ rs, n ≤ 144
  prod : rs.foldl (· * ·) 1 ≤ 144
theorem take_more {α : Type} {l : List α} {i : Nat} {x : α} (h : l[i]? = some x) : l.take (i + 1) = l.take i ++ [x] := by
  rw [List.take_add_one, h]
  rfl
theorem is_seq (src : D) (rs : List Int) (h : src = tuI rs ∨ src = liI rs) (cs us : List Nat) : isD cs us src (.tup [.ty "list", .ty "tuple"]) = .ok (.bl true) := by
  rcases h with rfl | rfl <;> kernel_rfl
theorem runI_nx {p n c : Nat} {g : Env → Oc} {ds : List D} {r : Env} (h : ds.length = p) (e : g (startI n c ds) = .nx r) : runI p n c g ds = selfR r := by
  unfold runI
  rw [if_pos h, e]
theorem getD_zip {xs ys : List Int} {f : Int × Int → Int} {i : Nat} (h1 : i < xs.length) (h2 : i < ys.length) : ((xs.zip ys).map f).getD i 0 = f (xs.getD i 0, ys.getD i 0) := by
  have e1 : xs[i]? = some (xs.getD i 0) := by rw [List.getD_eq_getElem?_getD, List.getElem?_eq_getElem h1]; rfl
  have e2 : ys[i]? = some (ys.getD i 0) := by rw [List.getD_eq_getElem?_getD, List.getElem?_eq_getElem h2]; rfl
  have e3 : (xs.zip ys)[i]? = some (xs.getD i 0, ys.getD i 0) := List.getElem?_zip_eq_some.mpr ⟨e1, e2⟩
  rw [List.getD_eq_getElem?_getD, List.getElem?_map, e3]
  rfl
theorem putV_at {rs x y : List Int} {i : Nat} (hi : i < rs.length) (h1 : x.length = rs.length) (h2 : y.length = rs.length) : (putV rs x y).getD i 0 = (x.getD i 0 + y.getD i 0) % rs.getD i 0 := by
  have e1 : x[i]? = some (x.getD i 0) := by rw [List.getD_eq_getElem?_getD, List.getElem?_eq_getElem (by omega)]; rfl
  have e2 : y[i]? = some (y.getD i 0) := by rw [List.getD_eq_getElem?_getD, List.getElem?_eq_getElem (by omega)]; rfl
  have e3 : rs[i]? = some (rs.getD i 0) := by rw [List.getD_eq_getElem?_getD, List.getElem?_eq_getElem hi]; rfl
  have e4 : (x.zip (y.zip rs))[i]? = some (x.getD i 0, y.getD i 0, rs.getD i 0) := List.getElem?_zip_eq_some.mpr ⟨e1, List.getElem?_zip_eq_some.mpr ⟨e2, e3⟩⟩
  unfold putV
  rw [List.getD_eq_getElem?_getD, List.getElem?_map, e4]
  rfl
theorem ext_getD {xs ys : List Int} (hl : xs.length = ys.length) (h : ∀ i, i < ys.length → xs.getD i 0 = ys.getD i 0) : xs = ys := by
  apply List.ext_getElem hl
  intro i h1 h2
  have := h i h2
  rw [List.getD_eq_getElem?_getD, List.getD_eq_getElem?_getD, List.getElem?_eq_getElem h1, List.getElem?_eq_getElem h2] at this
  exact this
theorem OkE.get {rs x : List Int} (h : OkE rs x) {i : Nat} (hi : i < rs.length) : 0 ≤ x.getD i 0 ∧ x.getD i 0 < rs.getD i 0 := by
  have e1 : x[i]? = some (x.getD i 0) := by rw [List.getD_eq_getElem?_getD, List.getElem?_eq_getElem (by rw [h.len]; exact hi)]; rfl
  have e3 : rs[i]? = some (rs.getD i 0) := by rw [List.getD_eq_getElem?_getD, List.getElem?_eq_getElem hi]; rfl
  exact h.at_ _ (List.mem_of_getElem? (List.getElem?_zip_eq_some.mpr ⟨e1, e3⟩ : (x.zip rs)[i]? = some (x.getD i 0, rs.getD i 0)))
theorem OkR.get {rs : List Int} (h : OkR rs) {i : Nat} (hi : i < rs.length) : 2 ≤ rs.getD i 0 := by
  have e3 : rs[i]? = some (rs.getD i 0) := by rw [List.getD_eq_getElem?_getD, List.getElem?_eq_getElem hi]; rfl
  exact h.two _ (List.mem_of_getElem? e3)
theorem zeroV_at (rs : List Int) (i : Nat) : (zeroV rs).getD i 0 = 0 := by
  unfold zeroV
  rw [List.getD_eq_getElem?_getD, List.getElem?_map]
  cases rs[i]? <;> rfl
theorem timesV_at {rs x : List Int} {n : Int} {i : Nat} (hi : i < rs.length) (hl : x.length = rs.length) : (timesV rs n x).getD i 0 = n * x.getD i 0 % rs.getD i 0 := getD_zip (f := fun p => n * p.1 % p.2) (by omega) hi
theorem timesV_len (rs x : List Int) (n : Int) (hl : x.length = rs.length) : (timesV rs n x).length = rs.length := by simp [timesV, hl]
theorem times_succ {rs x : List Int} (hl : x.length = rs.length) (j : Nat) : putV rs (timesV rs j x) x = timesV rs ((j + 1 : Nat) : Int) x := ext_getD (by rw [putV_len (timesV_len rs x j hl) hl, timesV_len rs x _ hl]) fun i hi => by
  have hi' : i < rs.length := by rw [timesV_len rs x _ hl] at hi; exact hi
  rw [putV_at hi' (timesV_len rs x j hl) hl, timesV_at hi' hl, timesV_at hi' hl]
  have e : ((j + 1 : Nat) : Int) * x.getD i 0 = (j : Int) * x.getD i 0 + x.getD i 0 := by
    rw [Int.natCast_add, Int.add_mul]
    show _ + (1 : Int) * _ = _
    rw [Int.one_mul]
  rw [e, Int.emod_add_emod]
/-- what stays while rounds are drawn -/
structure RIM (most : Int) (i : Nat) (f : List Int) (left : Int) : Prop where
  len : f.length ≤ i
  two : ∀ n ∈ f, 2 ≤ n
  le : ∀ n ∈ f, n ≤ most
  one : 1 ≤ left
  prod : f.foldl (· * ·) 1 * left ≤ most
theorem RIM.mono {most : Int} {i : Nat} {f : List Int} {left : Int} (v : RIM most i f left) : RIM most (i + 1) f left := ⟨by have := v.len; omega, v.two, v.le, v.one, v.prod⟩
end Mir
namespace Mir
open PySem PySem.Spec PyProof.Rows L2
variable [Tn]
theorem OkE.nil : OkE [] [] := ⟨rfl, fun _ h => nomatch h⟩
theorem OkE.cons {n i : Int} {rs t : List Int} : OkE (n :: rs) (i :: t) ↔ (0 ≤ i ∧ i < n) ∧ OkE rs t := by
  constructor
  · intro h
    refine ⟨h.at_ (i, n) (by simp), ⟨by have := h.len; simpa using this, fun p hp => h.at_ p (by rw [List.zip_cons_cons]; exact List.mem_cons_of_mem _ hp)⟩⟩
  · rintro ⟨h1, h2⟩
    refine ⟨by simp [h2.len], fun p hp => ?_⟩
    rw [List.zip_cons_cons] at hp
    rcases List.mem_cons.mp hp with z | z
    · subst z; exact h1
    · exact h2.at_ p z
end Mir
namespace Mir
open PySem PySem.Spec PyProof.Rows L2
variable [Tn]
/-- the pairs of places, the lesser first -/
noncomputable def placeRow (n i : Nat) : List (Nat × Nat) := (List.range (n - (i + 1))).map fun k => (i, i + 1 + k)
noncomputable def placePairs (n : Nat) : List (Nat × Nat) := (List.range n).flatMap (placeRow n)
theorem mem_placePairs {n : Nat} {p : Nat × Nat} : p ∈ placePairs n ↔ p.1 < p.2 ∧ p.2 < n := by
  unfold placePairs placeRow
  rw [List.mem_flatMap]
  constructor
  · rintro ⟨i, hi, h⟩
    obtain ⟨k, hk, rfl⟩ := List.mem_map.mp h
    have := List.mem_range.mp hk
    exact ⟨by show i < i + 1 + k; omega, by show i + 1 + k < n; omega⟩
  · rintro ⟨h1, h2⟩
    refine ⟨p.1, List.mem_range.mpr (by omega), List.mem_map.mpr ⟨p.2 - (p.1 + 1), List.mem_range.mpr (by omega), ?_⟩⟩
    obtain ⟨a, b⟩ := p
    have h1 : a < b := h1
    show (a, a + 1 + (b - (a + 1))) = (a, b)
    rw [Nat.add_sub_cancel' h1]
/-- what carries are made of -/
structure OkP (lo up : List Int) (ps : List (List Int)) (L : List ((Nat × Nat) × List Int)) : Prop where
  len : ps.length = up.length
  ps : ∀ k, k < up.length → OkE lo (ps.getD k [])
  key : L.map (·.1) = placePairs up.length
  val : ∀ q ∈ L, OkE lo q.2
theorem OkP.at_ {lo up : List Int} {ps : List (List Int)} {L : List ((Nat × Nat) × List Int)} (h : OkP lo up ps L) {q : (Nat × Nat) × List Int} (hq : q ∈ L) : q.1.1 < q.1.2 ∧ q.1.2 < up.length := by
  have : q.1 ∈ placePairs up.length := by rw [← h.key]; exact List.mem_map.mpr ⟨q, hq, rfl⟩
  exact mem_placePairs.mp this
end Mir
namespace Mir
open PySem PySem.Spec PyProof.Rows L2
variable [Tn]
noncomputable def enumS : List D → Res (List D)
  | [d] => match seqQ d with
    | some xs => .ok (enumL xs)
    | none => .bad
  | _ => .bad
@[simp] theorem enumS_lst (xs : List D) : enumS [.lst xs] = .ok (enumL xs) := rfl
@[simp] theorem enumS_tup (xs : List D) : enumS [.tup xs] = .ok (enumL xs) := rfl
@[simp] theorem enumS_scr (ns : List Int) : enumS [.scr ns] = .ok (enumL (ns.map D.int)) := rfl
end Mir
namespace Mir
variable [Tn]
/-- images that make a map -/
structure OkI (s g : List Int) (im : List (List Int)) : Prop where
  len : im.length = s.length
  el : ∀ y ∈ im, OkE g y
  nil : ∀ p ∈ s.zip im, timesV g p.1 p.2 = zeroV g
theorem el_of_mod {g x : List Int} (h : OkR g) (hl : x.length = g.length) (hm : ∀ i, i < g.length → ∃ z, x.getD i 0 = z % g.getD i 0) : OkE g x := by
  refine ⟨hl, fun p hp => ?_⟩
  obtain ⟨i, hi⟩ := List.getElem?_of_mem hp
  obtain ⟨g1, g2⟩ := List.getElem?_zip_eq_some.mp hi
  have hi' : i < g.length := (List.getElem?_eq_some_iff.mp g2).1
  obtain ⟨z, e⟩ := hm i hi'
  have t := h.get hi'
  have e1 : x.getD i 0 = p.1 := by rw [List.getD_eq_getElem?_getD, g1]; rfl
  have e2 : g.getD i 0 = p.2 := by rw [List.getD_eq_getElem?_getD, g2]; rfl
  rw [← e1, ← e2, e]
  exact ⟨Int.emod_nonneg _ (by omega), Int.emod_lt_of_pos _ (by omega)⟩
theorem times_el {g x : List Int} {n : Int} (h : OkR g) (hl : x.length = g.length) : OkE g (timesV g n x) := el_of_mod h (timesV_len g x n hl) fun i hi => ⟨_, timesV_at hi hl⟩
/-- the heads -/
noncomputable def headV (n at_ : Nat) : List Int := (List.range n).map fun k => if k = at_ then 1 else 0
theorem headV_at {n a i : Nat} (hi : i < n) : (headV n a).getD i 0 = if i = a then 1 else 0 := by
  unfold headV
  rw [List.getD_eq_getElem?_getD, List.getElem?_map, List.getElem?_range hi]
  rfl
theorem headV_len (n a : Nat) : (headV n a).length = n := by simp [headV]
theorem OkI.at_ {s g : List Int} {im : List (List Int)} (h : OkI s g im) {i : Nat} (hi : i < s.length) : OkE g (im.getD i []) ∧ timesV g (s.getD i 0) (im.getD i []) = zeroV g := by
  have e1 : s[i]? = some (s.getD i 0) := by rw [List.getD_eq_getElem?_getD, List.getElem?_eq_getElem hi]; rfl
  have e2 : im[i]? = some (im.getD i []) := by rw [List.getD_eq_getElem?_getD, List.getElem?_eq_getElem (by rw [h.len]; exact hi)]; rfl
  exact ⟨h.el _ (List.mem_of_getElem? e2), h.nil (s.getD i 0, im.getD i []) (List.mem_of_getElem? (List.getElem?_zip_eq_some.mpr ⟨e1, e2⟩))⟩
end Mir
namespace Mir
variable [Tn]
theorem el_mod {lo v : List Int} (h : OkE lo v) {p : Nat} (hp : p < lo.length) : v.getD p 0 % lo.getD p 0 = v.getD p 0 := by
  obtain ⟨a, b⟩ := h.get hp
  exact Int.emod_eq_of_lt a b
theorem putV_assoc {rs x y z : List Int} (h1 : x.length = rs.length) (h2 : y.length = rs.length) (h3 : z.length = rs.length) : putV rs (putV rs x y) z = putV rs x (putV rs y z) := by
  have l1 := putV_len h1 h2
  have l2 := putV_len h2 h3
  refine ext_getD (by rw [putV_len l1 h3, putV_len h1 l2]) fun i hi => ?_
  rw [putV_len h1 l2] at hi
  rw [putV_at hi l1 h3, putV_at hi h1 h2, putV_at hi h1 l2, putV_at hi h2 h3, Int.emod_add_emod, Int.add_emod_emod, Int.add_assoc]
theorem head_el {up : List Int} (h : OkR up) (i : Nat) : OkE up (headV up.length i) := el_of_mod h (headV_len _ _) fun j hj => by
  have t := h.get hj
  refine ⟨if j = i then 1 else 0, ?_⟩
  rw [headV_at hj]
  by_cases e : j = i
  · rw [if_pos e, Int.emod_eq_of_lt (by omega) (by omega)]
  · rw [if_neg e]; simp
theorem mul_head {up : List Int} {i j k : Nat} (hj : j < up.length) (hk : (k : Int) ≤ up.getD i 0) (g : OkR up) : (timesV up (k : Nat) (headV up.length i)).getD j 0 = if j = i then (k : Int) % up.getD i 0 else 0 := by
  rw [timesV_at hj (headV_len _ _), headV_at hj]
  by_cases e : j = i
  · subst e; simp
  · simp [e]
theorem times_nil {up : List Int} (g : OkR up) (i : Nat) (hi : i < up.length) : timesV up (up.getD i 0) (headV up.length i) = zeroV up := ext_getD (by rw [timesV_len up _ _ (headV_len _ _)]; simp [zeroV]) fun j hj => by
  have hj : j < up.length := by simpa [zeroV] using hj
  rw [zeroV_at, timesV_at hj (headV_len _ _), headV_at hj]
  by_cases e : j = i
  · subst e; simp
  · simp [e]
theorem putV_comm {rs x y : List Int} (h1 : x.length = rs.length) (h2 : y.length = rs.length) : putV rs x y = putV rs y x := ext_getD (by rw [putV_len h1 h2, putV_len h2 h1]) fun i hi => by
  rw [putV_len h2 h1] at hi
  rw [putV_at hi h1 h2, putV_at hi h2 h1, Int.add_comm]
theorem put_zero {lo v : List Int} (h : OkE lo v) : putV lo v (zeroV lo) = v := by
  have lz : (zeroV lo).length = lo.length := by simp [zeroV]
  refine ext_getD (by rw [putV_len h.len lz, h.len]) fun i hi => ?_
  rw [h.len] at hi
  rw [putV_at hi h.len lz, zeroV_at, Int.add_zero, el_mod h hi]
end Mir
namespace Mir
open PySem PySem.Spec PyProof.Rows L2
variable [Tn]
section
variable {G : GC} {J : L2.St → Prop} {H0 F0 F1 H1 : Hp} {fp : Nat → List Addr} {σ : L2.St} {r : Env}
/-- and taken up again -/
theorem MS.take (hJ : ∀ σ, J σ) (m : MS G J H0 F0 fp F1 σ H1 r) {i : Nat} {v : V} {s : Shape} {o : D} (hv : σ[i]? = some (some v)) (ho : r[i]? = some (.ow s o)) {fp2 : Nat → List Addr} {F2 H2 : Hp} {σ2 : L2.St} {r2 : Env} (m2 : MS G (fun σ => σ[i]? = some (some v)) H1 F1 fp2 F2 σ2 H2 r2) :
    MS G J H0 F0 (fun j => if j = i then fp i else fp2 j) F2 σ2 H2 (r2.set i (.ow s o)) := by
  obtain ⟨⟨w, hw, ow⟩, fr⟩ := m.ow i s o ho
  rw [hv] at hw
  cases hw
  have th := fun a (ha : a ∈ fp i) => ow.there a ha
  have nf : ∀ a ∈ fp i, F2 a = none := fun a ha => by
    cases e : F2 a with
    | none => rfl
    | some u =>
      rcases m2.new a u e with z | z
      · have := (th a ha).1
        rw [this] at z; cases z
      · obtain ⟨u2, e2⟩ := (th a ha).2
        rw [z] at e2; cases e2
  have hi2 : ∀ a ∈ fp i, H1 a ≠ none := fun a ha z => by
    obtain ⟨u2, e2⟩ := (th a ha).2
    rw [z] at e2; cases e2
  refine ⟨hJ _, m.s0.trans m2.s0, m.f0.trans m2.f0, m2.sub, fun a u e => ?_, by simpa using m2.len, fun j d h => ?_, fun j t d h => ?_, fun j k t u d e ne h1 h2 => ?_, m.t0⟩
  · rcases m2.new a u e with z | z
    · exact m.new a u z
    · exact .inr (m.s0.free z)
  · rcases get_set_slot h with ⟨_, x, _⟩ | ⟨_, h⟩
    · cases x
    · exact m2.sh j d h
  · rcases get_set_slot h with ⟨e1, x, _⟩ | ⟨ne, h⟩
    · subst e1
      cases x
      refine ⟨⟨v, m2.jo, ?_⟩, ?_⟩
      · show Own G F2 H2 s v o (if i = i then fp i else fp2 i)
        rw [if_pos rfl]
        exact ow.keep ⟨fun a ha u e => m2.s0.at' a u e fun ps z => ow.nt a ha ps (z ▸ e), m2.f0, fun a ha _ => nf a ha⟩
      · show ∀ a ∈ (if i = i then fp i else fp2 i), H0 a = none
        rw [if_pos rfl]
        exact fr
    · have ne' : ¬ j = i := fun z => ne z.symm
      obtain ⟨⟨w, q1, q2⟩, q3⟩ := m2.ow j t d h
      refine ⟨⟨w, q1, ?_⟩, ?_⟩
      · show Own G F2 H2 t w d (if j = i then fp i else fp2 j)
        rw [if_neg ne']
        exact q2
      · show ∀ a ∈ (if j = i then fp i else fp2 j), H0 a = none
        rw [if_neg ne']
        exact fun a ha => m.s0.free (q3 a ha)
  · show ∀ a ∈ (if j = i then fp i else fp2 j), a ∉ (if k = i then fp i else fp2 k)
    rcases get_set_slot h1 with ⟨e1, _, _⟩ | ⟨n1, h1⟩
    · subst e1
      rcases get_set_slot h2 with ⟨e2, _, _⟩ | ⟨n2, h2⟩
      · exact absurd e2 ne
      · have n2' : ¬ k = i := fun z => n2 z.symm
        rw [if_pos rfl, if_neg n2']
        exact fun a ha hb => hi2 a ha ((m2.ow k u e h2).2 a hb)
    · have n1' : ¬ j = i := fun z => n1 z.symm
      rw [if_neg n1']
      rcases get_set_slot h2 with ⟨e2, _, _⟩ | ⟨n2, h2⟩
      · subst e2
        rw [if_pos rfl]
        exact fun a ha hb => hi2 a hb ((m2.ow j t d h1).2 a ha)
      · have n2' : ¬ k = i := fun z => n2 z.symm
        rw [if_neg n2']
        exact m2.ap j k t u d e ne h1 h2
end
section
variable {X : Cx} {W : Wi} {k : Kd}
noncomputable abbrev Wi.pin (W : Wi) (i : Nat) (v : V) : Wi := ⟨W.w, fun σ => σ[i]? = some (some v)⟩
end
end Mir
namespace Mir
open PySem PySem.Spec PyProof.Rows L2
variable [Tn]
noncomputable def slotS : Shape → D → Slot
  | .sh, d => .sh d
  | s, d => .ow s d
noncomputable def nameO (i : Nat) (s : Shape) (d : D) (r : Env) : Res Env := .ok (r.set i (slotS s d))
@[simp] theorem nameO_sh (i : Nat) (d : D) (r : Env) : nameO i .sh d r = .ok (r.set i (.sh d)) := rfl
@[simp] theorem nameO_flat (i : Nat) (d : D) (r : Env) : nameO i .flat d r = .ok (r.set i (.ow .flat d)) := rfl
end Mir
namespace Mir
open PySem PySem.Spec PyProof.Rows L2
variable [Tn]
noncomputable def IsTI (h : Heap) (v : Value) (ns : List Int) : Prop := ∃ a o items n, v = Value.ref a ∧ h.get? a = some o ∧ o.cls = .type "tuple" ∧ o.data = .seq items n ∧ IntsAre items.toList ns
end Mir
namespace Mir
open PySem PySem.Spec PyProof.Rows L2
variable [Tn]
/-- the items of vs hold the rows ks -/
inductive AllTI (h : Heap) : List Value → List (List Int) → Prop
  | nil : AllTI h [] []
  | cons {v : Value} {k : List Int} {vs : List Value} {ks : List (List Int)} : IsTI h v k → AllTI h vs ks → AllTI h (v :: vs) (k :: ks)
theorem AllTI.len {h : Heap} : ∀ {vs : List Value} {ks : List (List Int)}, AllTI h vs ks → vs.length = ks.length
  | _, _, .nil => rfl
  | _, _, .cons _ t => by rw [List.length_cons, List.length_cons, t.len]
end Mir
namespace Mir
open PySem PySem.Spec PyProof.Rows L2
variable [Tn]
theorem set_len (x : List Int) (i : Nat) (k : Int) : (x.set i k).length = x.length := List.length_set
theorem set_at {x : List Int} {i j : Nat} {k : Int} (hi : i < x.length) : (x.set i k).getD j 0 = if j = i then k else x.getD j 0 := by
  rw [List.getD_eq_getElem?_getD, List.getElem?_set]
  by_cases h : i = j
  · subst h
    rw [if_pos rfl, if_pos hi, if_pos rfl]
    rfl
  · rw [if_neg h, if_neg (fun z => h z.symm), List.getD_eq_getElem?_getD]
theorem set_el {up x : List Int} {i : Nat} {k : Int} (hx : OkE up x) (hi : i < up.length) (h0 : 0 ≤ k) (h1 : k < up.getD i 0) : OkE up (x.set i k) := by
  have hl := hx.len
  refine ⟨by rw [set_len, hl], fun p hp => ?_⟩
  obtain ⟨j, hj, e⟩ := List.getElem_of_mem hp
  rw [List.length_zip, set_len, hl] at hj
  have hj' : j < up.length := by omega
  rw [List.getElem_zip] at e
  have e1 : p.1 = (x.set i k).getD j 0 := by
    rw [← e, List.getD_eq_getElem?_getD, List.getElem?_eq_getElem (by rw [set_len]; omega)]
    rfl
  have e2 : p.2 = up.getD j 0 := by
    rw [← e, List.getD_eq_getElem?_getD, List.getElem?_eq_getElem hj']
    rfl
  rw [e1, e2, set_at (by omega)]
  split
  · rename_i q; subst q; exact ⟨h0, h1⟩
  · exact hx.get hj'
theorem set_same {x : List Int} {i : Nat} (hi : i < x.length) : x.set i (x.getD i 0) = x := ext_getD (set_len _ _ _) fun j hj => by
  rw [set_at hi]
  split
  · rename_i q; rw [q]
  · rfl
theorem set_set (x : List Int) (i : Nat) (k l : Int) : (x.set i k).set i l = x.set i l := by simp
/-- one more at the i-th place -/
theorem set_head {up x : List Int} {i : Nat} {k : Int} (g : OkR up) (hx : OkE up x) (hi : i < up.length) (h0 : 0 ≤ k) (h1 : k + 1 < up.getD i 0) : putV up (x.set i k) (headV up.length i) = x.set i (k + 1) := by
  have hl := hx.len
  have l1 : (x.set i k).length = up.length := by rw [set_len, hl]
  refine ext_getD (by rw [putV_len l1 (headV_len _ _), set_len, hl]) fun j hj => ?_
  rw [set_len, hl] at hj
  rw [putV_at hj l1 (headV_len _ _), set_at (by omega), set_at (by omega), headV_at hj]
  by_cases q : j = i
  · subst q
    rw [if_pos rfl, if_pos rfl, if_pos rfl, Int.emod_eq_of_lt (by omega) h1]
  · rw [if_neg q, if_neg q, if_neg q]
    have := hx.get hj
    rw [Int.emod_eq_of_lt (by omega) (by omega)]
    omega
/-- so many at the i-th place -/
theorem set_heads {up x : List Int} {i k : Nat} (g : OkR up) (hx : OkE up x) (hi : i < up.length) (hz : x.getD i 0 = 0) (h1 : (k : Int) < up.getD i 0) : putV up x (timesV up (k : Nat) (headV up.length i)) = x.set i (k : Nat) := by
  have hl := hx.len
  have tl := timesV_len up (headV up.length i) (k : Nat) (headV_len _ _)
  refine ext_getD (by rw [putV_len hl tl, set_len, hl]) fun j hj => ?_
  rw [set_len, hl] at hj
  rw [putV_at hj hl tl, set_at (by omega), mul_head hj (by omega) g]
  have := hx.get hj
  by_cases q : j = i
  · subst q
    rw [if_pos rfl, if_pos rfl, hz, Int.zero_add, Int.emod_emod_of_dvd _ (Int.dvd_refl _), Int.emod_eq_of_lt (by omega) h1]
  · rw [if_neg q, if_neg q, Int.add_zero, Int.emod_eq_of_lt this.1 this.2]
noncomputable abbrev Cg (m a b : Int) : Prop := ∃ q, a = b + m * q
/-- what is known of two carries' difference and the labels, at one place -/
structure LabC (up : List Int) (m : Int) (d : List Int → List Int → Int) (H : List Int → Int) (lab : Nat → Int) : Prop where
  coc : ∀ x y z, OkE up x → OkE up y → OkE up z → Cg m (d x y + d (putV up x y) z) (d y z + d x (putV up y z))
  h0 : Cg m (H (zeroV up)) (d (zeroV up) (zeroV up))
  hs : ∀ i x, i < up.length → OkE up x → (∀ j, i < j → x.getD j 0 = 0) → x.getD i 0 + 1 < up.getD i 0 → Cg m (H (putV up x (headV up.length i))) (H x + lab i - d x (headV up.length i))
  wt : ∀ i, i < up.length → Cg m (up.getD i 0 * lab i) (((List.range (up.getD i 0).toNat).map fun k : Nat => d (timesV up (k : Nat) (headV up.length i)) (headV up.length i)).sum)
  od : ∀ i j, i < j → j < up.length → Cg m (d (headV up.length i) (headV up.length j)) (d (headV up.length j) (headV up.length i))
section
variable {up : List Int} {m : Int} {d : List Int → List Int → Int} {H : List Int → Int} {lab : Nat → Int}
noncomputable def dfD (up : List Int) (d : List Int → List Int → Int) (H : List Int → Int) (x y : List Int) : Int := d x y - (H x + H y - H (putV up x y))
theorem LabC.D_coc (L : LabC up m d H lab) (g : OkR up) {x y z : List Int} (hx : OkE up x) (hy : OkE up y) (hz : OkE up z) : Cg m (dfD up d H x y + dfD up d H (putV up x y) z) (dfD up d H y z + dfD up d H x (putV up y z)) := by
  obtain ⟨q, e⟩ := L.coc x y z hx hy hz
  refine ⟨q, ?_⟩
  unfold dfD
  rw [putV_assoc hx.len hy.len hz.len]
  omega
theorem put0 {x : List Int} (hx : OkE up x) : putV up x (zeroV up) = x := put_zero hx
theorem put0l {x : List Int} (g : OkR up) (hx : OkE up x) : putV up (zeroV up) x = x := by rw [putV_comm (zero_el g).len hx.len, put_zero hx]
theorem LabC.D00 (L : LabC up m d H lab) (g : OkR up) : Cg m (dfD up d H (zeroV up) (zeroV up)) 0 := by
  obtain ⟨q, e⟩ := L.h0
  refine ⟨-q, ?_⟩
  unfold dfD
  rw [put0 (zero_el g), Int.mul_neg]
  omega
theorem LabC.D0y (L : LabC up m d H lab) (g : OkR up) {y : List Int} (hy : OkE up y) : Cg m (dfD up d H (zeroV up) y) 0 := by
  have z := zero_el g
  obtain ⟨q, e⟩ := L.D_coc g z z hy
  obtain ⟨q2, e2⟩ := L.D00 g
  rw [put0 z, put0l g hy] at e
  refine ⟨q2 - q, ?_⟩
  rw [Int.mul_sub]
  omega
theorem LabC.Dx0 (L : LabC up m d H lab) (g : OkR up) {x : List Int} (hx : OkE up x) : Cg m (dfD up d H x (zeroV up)) 0 := by
  have z := zero_el g
  obtain ⟨q, e⟩ := L.D_coc g hx z z
  obtain ⟨q2, e2⟩ := L.D00 g
  rw [put0 z, put0 hx] at e
  refine ⟨q2 + q, ?_⟩
  rw [Int.mul_add]
  omega
theorem LabC.H_head (L : LabC up m d H lab) (g : OkR up) {i : Nat} (hi : i < up.length) : Cg m (H (headV up.length i)) (lab i) := by
  have z := zero_el g
  have he := head_el g i
  have n2 := g.get hi
  obtain ⟨q, e⟩ := L.hs i (zeroV up) hi z (fun j _ => zeroV_at up j) (by rw [zeroV_at]; omega)
  obtain ⟨q2, e2⟩ := L.D0y g he
  rw [put0l g he] at e
  unfold dfD at e2
  rw [put0l g he] at e2
  refine ⟨q - q2, ?_⟩
  rw [Int.mul_sub]
  omega
/-- the places behind i are nought -/
noncomputable def Low (i : Nat) (x : List Int) : Prop := ∀ j, i < j → x.getD j 0 = 0
theorem LabC.step1 (L : LabC up m d H lab) (g : OkR up) {i : Nat} (hi : i < up.length) {x : List Int} (hx : OkE up x) (hl : Low i x) (h : x.getD i 0 + 1 < up.getD i 0) : Cg m (dfD up d H x (headV up.length i)) 0 := by
  obtain ⟨q, e⟩ := L.hs i x hi hx hl h
  obtain ⟨q2, e2⟩ := L.H_head g hi
  refine ⟨q - q2, ?_⟩
  unfold dfD
  rw [e, e2, Int.mul_sub]
  omega
theorem low_zero (i : Nat) : Low i (zeroV up) := fun j _ => zeroV_at up j
theorem low_set {x : List Int} {i : Nat} {k : Int} (hi : i < x.length) (h : Low i x) : Low i (x.set i k) := fun j hj => by
  rw [set_at hi, if_neg (by omega)]
  exact h j hj
theorem LabC.sums (L : LabC up m d H lab) (g : OkR up) {i : Nat} (hi : i < up.length) : ∀ k : Nat, (k : Int) < up.getD i 0 → Cg m (H ((zeroV up).set i (k : Nat)))
    (H (zeroV up) + (k : Nat) * lab i - ((List.range k).map fun k : Nat => d (timesV up (k : Nat) (headV up.length i)) (headV up.length i)).sum)
  | 0, _ => by
    have e : (zeroV up).set i ((0 : Nat) : Int) = zeroV up := by
      have := set_same (x := zeroV up) (i := i) (by unfold zeroV; simpa using hi)
      rw [zeroV_at] at this
      exact this
    rw [e]
    exact ⟨0, by simp⟩
  | k + 1, hk => by
    have z := zero_el g
    have zl : i < (zeroV up).length := by rw [z.len]; exact hi
    obtain ⟨q, e⟩ := LabC.sums L g hi k (by omega)
    have hx := set_el z hi (k := (k : Nat)) (by omega) (by omega)
    obtain ⟨q2, e2⟩ := L.hs i _ hi hx (low_set zl (low_zero i)) (by rw [set_at zl, if_pos rfl]; omega)
    rw [set_head g z hi (by omega) (by omega)] at e2
    have sh := set_heads (k := k) g z hi (zeroV_at up i) (by omega)
    rw [put0l g (times_el g (headV_len _ _))] at sh
    refine ⟨q2 + q, ?_⟩
    rw [List.range_succ, List.map_append, List.sum_append]
    simp only [List.map_cons, List.map_nil, List.sum_cons, List.sum_nil]
    rw [sh]
    show H ((zeroV up).set i ((k + 1 : Nat) : Int)) = _
    rw [show ((k + 1 : Nat) : Int) = (k : Int) + 1 by omega, e2, e, Int.mul_add, Int.add_mul]
    simp
    omega
/-- the last turn round -/
theorem LabC.wrap0 (L : LabC up m d H lab) (g : OkR up) {i : Nat} (hi : i < up.length) : Cg m (dfD up d H ((zeroV up).set i (up.getD i 0 - 1)) (headV up.length i)) 0 := by
  have z := zero_el g
  have n2 := g.get hi
  obtain ⟨n, hn⟩ : ∃ n : Nat, up.getD i 0 = (n : Int) + 1 := ⟨(up.getD i 0 - 1).toNat, by omega⟩
  obtain ⟨q, e⟩ := L.sums g hi n (by omega)
  obtain ⟨q2, e2⟩ := L.wt i hi
  obtain ⟨q3, e3⟩ := L.H_head g hi
  have sh := set_heads (k := n) g z hi (zeroV_at up i) (by omega)
  rw [put0l g (times_el g (headV_len _ _))] at sh
  have e4 : up.getD i 0 - 1 = (n : Int) := by omega
  have tn : (up.getD i 0).toNat = n + 1 := by omega
  rw [tn, List.range_succ, List.map_append, List.sum_append] at e2
  simp only [List.map_cons, List.map_nil, List.sum_cons, List.sum_nil] at e2
  rw [sh, hn, Int.add_mul] at e2
  have back : putV up ((zeroV up).set i (n : Int)) (headV up.length i) = zeroV up := by
    rw [← sh, times_succ (headV_len _ _), show ((n + 1 : Nat) : Int) = up.getD i 0 by omega, times_nil g i hi]
  rw [e4]
  unfold dfD
  rw [back]
  refine ⟨-q2 - q - q3, ?_⟩
  rw [Int.mul_sub, Int.mul_sub, Int.mul_neg, e, e3]
  omega
theorem LabC.base (L : LabC up m d H lab) (g : OkR up) {i : Nat} (hi : i < up.length) {b : List Int} (hb : OkE up b) (hl : Low i b) (h0 : b.getD i 0 = 0) : ∀ k : Nat, (k : Int) < up.getD i 0 → Cg m (dfD up d H b ((zeroV up).set i (k : Nat))) 0
  | 0, _ => by
    have e : (zeroV up).set i ((0 : Nat) : Int) = zeroV up := by
      have := set_same (x := zeroV up) (i := i) (by unfold zeroV; simpa using hi)
      rw [zeroV_at] at this
      exact this
    rw [e]
    exact L.Dx0 g hb
  | k + 1, hk => by
    have z := zero_el g
    have bl : i < b.length := by rw [hb.len]; exact hi
    have zl : i < (zeroV up).length := by rw [z.len]; exact hi
    obtain ⟨q, e⟩ := LabC.base L g hi hb hl h0 k (by omega)
    have hx := set_el z hi (k := (k : Nat)) (by omega) (by omega)
    obtain ⟨q2, e2⟩ := L.D_coc g hb hx (head_el g i)
    have sh := set_heads (k := k) g z hi (zeroV_at up i) (by omega)
    rw [put0l g (times_el g (headV_len _ _))] at sh
    have sb := set_heads (k := k) g hb hi h0 (by omega)
    have eb : putV up b ((zeroV up).set i (k : Nat)) = b.set i (k : Nat) := by rw [← sh]; exact sb
    rw [eb, set_head g z hi (by omega) (by omega)] at e2
    have bk := set_el hb hi (k := (k : Nat)) (by omega) (by omega)
    obtain ⟨q3, e3⟩ := L.step1 g hi bk (low_set bl hl) (by rw [set_at bl, if_pos rfl]; omega)
    obtain ⟨q4, e4⟩ := L.step1 g hi hx (low_set zl (low_zero i)) (by rw [set_at zl, if_pos rfl]; omega)
    show Cg m (dfD up d H b ((zeroV up).set i ((k + 1 : Nat) : Int))) 0
    rw [show ((k + 1 : Nat) : Int) = (k : Int) + 1 by omega]
    refine ⟨q + q3 - q4 - q2, ?_⟩
    rw [Int.mul_sub, Int.mul_sub, Int.mul_add]
    omega
/-- by a head whose place is the last -/
theorem LabC.S (L : LabC up m d H lab) (g : OkR up) {i : Nat} (hi : i < up.length) {x : List Int} (hx : OkE up x) (hl : Low i x) : Cg m (dfD up d H x (headV up.length i)) 0 := by
  have n2 := g.get hi
  have z := zero_el g
  obtain ⟨x0, x1⟩ := hx.get hi
  have xl : i < x.length := by rw [hx.len]; exact hi
  by_cases h : x.getD i 0 + 1 < up.getD i 0
  · exact L.step1 g hi hx hl h
  · obtain ⟨n, hn⟩ : ∃ n : Nat, x.getD i 0 = (n : Int) := ⟨(x.getD i 0).toNat, by omega⟩
    have hb := set_el hx hi (k := 0) (by omega) (by omega)
    have b0 : (x.set i 0).getD i 0 = 0 := by rw [set_at xl, if_pos rfl]
    have bl := low_set (k := 0) xl hl
    obtain ⟨q, e⟩ := L.base g hi hb bl b0 n (by omega)
    have sh := set_heads (k := n) g z hi (zeroV_at up i) (by omega)
    rw [put0l g (times_el g (headV_len _ _))] at sh
    have zx := set_el z hi (k := (n : Nat)) (by omega) (by omega)
    obtain ⟨q2, e2⟩ := L.D_coc g hb zx (head_el g i)
    have sb := set_heads (k := n) g hb hi b0 (by omega)
    have eb : putV up (x.set i 0) ((zeroV up).set i (n : Nat)) = x := by rw [← sh, sb, set_set, ← hn, set_same xl]
    have back : putV up ((zeroV up).set i (n : Int)) (headV up.length i) = zeroV up := by
      rw [← sh, times_succ (headV_len _ _), show ((n + 1 : Nat) : Int) = up.getD i 0 by omega, times_nil g i hi]
    obtain ⟨q3, e3⟩ := L.wrap0 g hi
    rw [show up.getD i 0 - 1 = (n : Int) by omega] at e3
    obtain ⟨q4, e4⟩ := L.Dx0 g hb
    rw [eb, back] at e2
    refine ⟨q2 + q3 + q4 - q, ?_⟩
    rw [Int.mul_sub, Int.mul_add, Int.mul_add]
    omega
theorem low_head {i j : Nat} (h : i ≤ j) : Low j (headV up.length i) := fun k hk => by
  by_cases q : k < up.length
  · rw [headV_at q, if_neg (by omega)]
  · rw [List.getD_eq_getElem?_getD, List.getElem?_eq_none (by rw [headV_len]; omega)]
    rfl
theorem LabC.heads2 (L : LabC up m d H lab) (g : OkR up) {i j : Nat} (hij : i < j) (hj : j < up.length) : Cg m (dfD up d H (headV up.length i) (headV up.length j)) 0 ∧ Cg m (dfD up d H (headV up.length j) (headV up.length i)) 0 := by
  obtain ⟨q, e⟩ := L.S g hj (head_el g i) (low_head (by omega))
  refine ⟨⟨q, e⟩, ?_⟩
  obtain ⟨q2, e2⟩ := L.od i j hij hj
  unfold dfD at e ⊢
  refine ⟨q - q2, ?_⟩
  rw [putV_comm (headV_len _ _) (headV_len _ _), Int.mul_sub]
  omega
theorem low_put {x y : List Int} {j : Nat} (g : OkR up) (hx : OkE up x) (hy : OkE up y) (h1 : Low j x) (h2 : Low j y) : Low j (putV up x y) := fun k hk => by
  by_cases q : k < up.length
  · rw [putV_at q hx.len hy.len, h1 k hk, h2 k hk]
    simp
  · rw [List.getD_eq_getElem?_getD, List.getElem?_eq_none (by rw [putV_len hx.len hy.len]; omega)]
    rfl
/-- by a head, whatever stands behind it -/
theorem LabC.T (L : LabC up m d H lab) (g : OkR up) {i : Nat} (hi : i < up.length) : ∀ j : Nat, i ≤ j → j < up.length → ∀ (n : Nat) (x : List Int), OkE up x → Low j x → x.getD j 0 = (n : Int) → Cg m (dfD up d H x (headV up.length i)) 0 := by
  intro j
  induction j with
  | zero =>
    intro hij hj n x hx hl _
    have : i = 0 := by omega
    subst this
    exact L.S g hi hx hl
  | succ j ih =>
    intro hij hj n
    by_cases q : i = j + 1
    · subst q
      intro x hx hl _
      exact L.S g hi hx hl
    · induction n with
      | zero =>
        intro x hx hl h0
        refine ih (by omega) (by omega) (x.getD j 0).toNat x hx (fun k hk => ?_) ?_
        · by_cases r : k = j + 1
          · subst r; exact h0
          · exact hl k (by omega)
        · have := hx.get (i := j) (by omega)
          omega
      | succ n ihn =>
        intro x hx hl hn
        have xl : j + 1 < x.length := by rw [hx.len]; exact hj
        have xb := hx.get hj
        have hx' := set_el hx hj (k := (n : Int)) (by omega) (by omega)
        have l' := low_set (k := (n : Int)) xl hl
        have a0 := ihn _ hx' l' (by rw [set_at xl, if_pos rfl])
        have hj1 := head_el g (j + 1)
        have hi1 := head_el g i
        obtain ⟨q1, e1⟩ := a0
        obtain ⟨q2, e2⟩ := L.D_coc g hx' hj1 hi1
        obtain ⟨q3, e3⟩ := L.D_coc g hx' hi1 hj1
        obtain ⟨q4, e4⟩ := L.S g hj hx' l'
        obtain ⟨q5, e5⟩ := L.S g hj (put_el g hx'.len hi1.len) (low_put g hx' hi1 l' (low_head (by omega)))
        obtain ⟨⟨q6, e6⟩, q7, e7⟩ := L.heads2 g (i := i) (j := j + 1) (by omega) hj
        rw [set_head g hx hj (by omega) (by omega), show (n : Int) + 1 = x.getD (j + 1) 0 by omega, set_same xl, putV_comm hj1.len hi1.len] at e2
        refine ⟨q2 - q4 + q7 + q1 + q5 - q6 - q3, ?_⟩
        simp only [Int.mul_sub, Int.mul_add]
        omega
theorem LabC.all_heads (L : LabC up m d H lab) (g : OkR up) {i : Nat} (hi : i < up.length) {x : List Int} (hx : OkE up x) : Cg m (dfD up d H x (headV up.length i)) 0 := by
  have hn : up.length - 1 < up.length := by omega
  refine L.T g hi (up.length - 1) (by omega) hn (x.getD (up.length - 1) 0).toNat x hx (fun j hj => ?_) (by have := hx.get hn; omega)
  rw [List.getD_eq_getElem?_getD, List.getElem?_eq_none (by rw [hx.len]; omega)]
  rfl
theorem sum_set : ∀ (x : List Int) (i : Nat) (k : Int), i < x.length → (x.set i k).sum = x.sum - x.getD i 0 + k
  | [], _, _, h => by simp at h
  | a :: x, 0, k, _ => by simp; omega
  | a :: x, i + 1, k, h => by
    have := sum_set x i k (by simpa using h)
    simp at this ⊢
    omega
/-- .. and so by all -/
theorem LabC.all (L : LabC up m d H lab) (g : OkR up) : ∀ (n : Nat) (y : List Int), OkE up y → y.sum = (n : Int) → ∀ x, OkE up x → Cg m (dfD up d H x y) 0 := by
  intro n
  induction n with
  | zero =>
    intro y hy hs x hx
    have e : y = zeroV up := by
      refine ext_getD (by rw [hy.len]; unfold zeroV; simp) fun i hi => ?_
      rw [zeroV_at]
      have hi : i < up.length := by unfold zeroV at hi; simpa using hi
      by_cases q : y.getD i 0 = 0
      · exact q
      · have nn : ∀ z : List Int, (∀ i, i < z.length → 0 ≤ z.getD i 0) → 0 ≤ z.sum := fun z => by
          induction z with
          | nil => intro _; simp
          | cons a z ih =>
            intro h
            have h0 := h 0 (by simp)
            have h1 := ih fun i hi => by have := h (i + 1) (by simpa using hi); simpa using this
            simp at h0 ⊢
            omega
        have yl : i < y.length := by rw [hy.len]; exact hi
        have p := nn (y.set i 0) fun j hj => by
          rw [set_at yl]
          split
          · omega
          · rw [set_len] at hj
            exact (hy.get (by rw [← hy.len]; exact hj)).1
        rw [sum_set y i 0 yl] at p
        have := hy.get hi
        omega
    rw [e]
    exact L.Dx0 g hx
  | succ n ih =>
    intro y hy hs x hx
    obtain ⟨i, hi, h1⟩ : ∃ i, i < up.length ∧ 1 ≤ y.getD i 0 := by
      by_cases q : ∃ i, i < up.length ∧ 1 ≤ y.getD i 0
      · exact q
      · exfalso
        have np : ∀ z : List Int, (∀ i, i < z.length → z.getD i 0 ≤ 0) → z.sum ≤ 0 := fun z => by
          induction z with
          | nil => intro _; simp
          | cons a z ih =>
            intro h
            have h0 := h 0 (by simp)
            have h1 := ih fun i hi => by have := h (i + 1) (by simpa using hi); simpa using this
            simp at h0 ⊢
            omega
        have := np y fun i hi => by
          by_cases r : 1 ≤ y.getD i 0
          · exact absurd ⟨i, by rw [← hy.len]; exact hi, r⟩ q
          · omega
        omega
    have yl : i < y.length := by rw [hy.len]; exact hi
    have yb := hy.get hi
    have hy' := set_el hy hi (k := y.getD i 0 - 1) (by omega) (by omega)
    obtain ⟨q1, e1⟩ := ih _ hy' (by rw [sum_set y i _ yl]; omega) x hx
    obtain ⟨q2, e2⟩ := L.D_coc g hx hy' (head_el g i)
    obtain ⟨q3, e3⟩ := L.all_heads g hi (put_el g hx.len hy'.len)
    obtain ⟨q4, e4⟩ := L.all_heads g hi hy'
    rw [set_head g hy hi (by omega) (by omega), show y.getD i 0 - 1 + 1 = y.getD i 0 by omega, set_same yl] at e2
    refine ⟨q1 + q3 - q4 - q2, ?_⟩
    simp only [Int.mul_sub, Int.mul_add]
    omega
end
end Mir
namespace Mir
open PySem PySem.Spec PyProof.Rows L2
variable [Tn]
noncomputable abbrev ZRec (h : Heap) (z TI TO : Addr) (f0 f1 : Value) : Prop :=
  h.get? z = some { cls := .type "zip", dict := none, data := .fields #[f0, f1, .bool false, .ref TI, .ref TO], slots := #[] }
section
variable {prog : Program} {w : World} {A : Around} {E : Value → Shared → Prop} {s : Shared}
/-- a zip between two turns: nothing given out, or a tuple that is still there or gone -/
noncomputable def ZSt (h : Heap) (z TI TO : Addr) : Prop := ZRec h z TI TO .none (.bool false) ∨ ∃ (T : Addr) (f : Bool), ZRec h z TI TO (rawInt T) (.bool f)
end
end Mir
namespace Mir
open PySem PySem.Spec PyProof.Rows L2
variable [Tn]
/-- what a turn of the zip leaves -/
structure ZAll (h : Heap) (z TI TO i1 i2 l1 l2 : Addr) (k1 k2 : Bool) (p : Nat) : Prop where
  st : ZSt h z TI TO
  ti : IsT h TI #[.ref i1, .ref i2]
  to_ : ∃ o1 o2 : Value, IsT h TO #[o1, o2]
  n1 : SIt h k1 i1 l1 p
  n2 : SIt h k2 i2 l2 p
theorem ZSt.at {h h' : Heap} {z TI TO : Addr} (x : ZSt h z TI TO) (f : ∀ o, h.get? z = some o → h'.get? z = some o) : ZSt h' z TI TO := by
  rcases x with x | ⟨T, g, x⟩
  · exact .inl (f _ x)
  · exact .inr ⟨T, g, f _ x⟩
theorem ZSt.ob {h : Heap} {z TI TO : Addr} (x : ZSt h z TI TO) : ∃ o, h.get? z = some o ∧ ∀ v, o.data ≠ .cell v := by
  rcases x with x | ⟨T, g, x⟩
  · exact ⟨_, x, fun v q => nomatch q⟩
  · exact ⟨_, x, fun v q => nomatch q⟩
theorem ZSt.lt {h : Heap} {z TI TO : Addr} (x : ZSt h z TI TO) : z < h.objs.size := let ⟨_, e, _⟩ := x.ob; Heap.lt_size e
section
variable {h h' : Heap} {z TI TO i1 i2 l1 l2 : Addr} {k1 k2 : Bool} {p : Nat}
theorem ZAll.at (x : ZAll h z TI TO i1 i2 l1 l2 k1 k2 p) (f : ∀ b, (b = z ∨ b = TI ∨ b = TO ∨ b = i1 ∨ b = i2) → ∀ o, h.get? b = some o → h'.get? b = some o) : ZAll h' z TI TO i1 i2 l1 l2 k1 k2 p where
  st := x.st.at (f z (.inl rfl))
  ti := f TI (.inr (.inl rfl)) _ x.ti
  to_ := let ⟨o1, o2, e⟩ := x.to_; ⟨o1, o2, f TO (.inr (.inr (.inl rfl))) _ e⟩
  n1 := x.n1.at (f i1 (.inr (.inr (.inr (.inl rfl)))))
  n2 := x.n2.at (f i2 (.inr (.inr (.inr (.inr rfl)))))
theorem ZAll.lt (x : ZAll h z TI TO i1 i2 l1 l2 k1 k2 p) {b : Addr} (hb : b = z ∨ b = TI ∨ b = TO ∨ b = i1 ∨ b = i2) : b < h.objs.size := by
  obtain ⟨o1, o2, e⟩ := x.to_
  rcases hb with q | q | q | q | q
  · rw [q]; exact x.st.lt
  · rw [q]; exact Heap.lt_size x.ti
  · rw [q]; exact Heap.lt_size e
  · rw [q]; exact x.n1.lt
  · rw [q]; exact x.n2.lt
end
end Mir
namespace Mir
open PySem PySem.Spec PyProof.Rows L2
variable [Tn]
section
variable {X : Cx} {W : Wi} {k : Nat}
@[simp] noncomputable def tupRevD : D → Res D
  | .tup xs => .ok (.tup xs.reverse)
  | _ => .bad
end
end Mir
namespace Mir
open PySem PySem.Spec PyProof.Rows L2
variable [Tn]
noncomputable def capsD : List Nat → Env → Res (List D)
  | [], _ => .ok []
  | j :: js, r => getS j r >>= fun d => capsD js r >>= fun ds => .ok (d :: ds)
@[simp] theorem capsD_nil (r : Env) : capsD [] r = .ok [] := rfl
@[simp] theorem capsD_cons (j : Nat) (js : List Nat) (r : Env) : capsD (j :: js) r = (getS j r >>= fun d => capsD js r >>= fun ds => .ok (d :: ds)) := rfl
end Mir
namespace Mir
open PySem PySem.Spec PyProof.Rows L2
variable [Tn]
section
variable {X : Cx} {W : Wi}
theorem Own.opts {G : GC} {F H : Hp} {l : List Shape} {v : V} {d : D} {A : List Addr} (h : Own G F H (.parts l) v d A) : Own G F H (.opts l) v d A := by
  cases h with
  | lst h0 h1 h2 h3 h4 => exact .lst rfl h1 h2 h3 h4
  | tup h0 h1 h2 h3 h4 => exact .tup rfl h1 h2 h3 h4
  | dic h0 h1 h2 z1 z2 z3 z4 z5 h3 h4 => exact .dic rfl h1 h2 z1 z2 z3 z4 z5 h3 h4
  | dct h0 h1 h2 z h3 h4 => exact .dct rfl h1 h2 z h3 h4
  | mix h0 h1 h2 z1 z2 z3 z4 z5 z6 z7 z8 => exact .mix rfl h1 h2 z1 z2 z3 z4 z5 z6 z7 z8
  | obj h0 h1 h2 z h3 h4 => exact .obj rfl h1 h2 z h3 h4
end
end Mir
namespace Mir
open PySem PySem.Spec PyProof.Rows L2
variable [Tn]
section
variable {X : Cx} {W : Wi} {k : Kd}
theorem PG.or {e : Expr} {t1 t2 : TG} (h1 : PG X e t1) (h2 : PG X e t2) : PG X e (fun v σ H Q => t1 v σ H Q ∨ t2 v σ H Q) :=
  ⟨fun pins s σ H v u Q I r hw => hw.elim (fun h => h1.run pins s σ H v u Q I r h) fun h => h2.run pins s σ H v u Q I r h⟩
end
end Mir
namespace Mir
open PySem PySem.Spec PyProof.Rows L2
variable [Tn]
/-- a list taken apart -/
noncomputable def lstG (n : Nat) (gs : List D → Env → Res Env) : D → Env → Res Env := fun d r => match d with
  | .lst ds => if ds.length = n then gs ds r else .bad
  | _ => .bad
@[simp] theorem lstG_lst (n : Nat) (gs : List D → Env → Res Env) (ds : List D) (r : Env) : lstG n gs (.lst ds) r = if ds.length = n then gs ds r else .bad := rfl
end Mir
namespace Mir
open PySem PySem.Spec PyProof.Rows L2
variable [Tn]
noncomputable def isTxt : D → Res D
  | .str z => .ok (.str z)
  | _ => .bad
@[simp] theorem isTxt_str (z : Str) : isTxt (.str z) = .ok (.str z) := rfl
end Mir
namespace Mir
open PySem PySem.Spec PyProof.Rows L2
variable [Tn]
@[simp] noncomputable def lstRevD : D → Res D
  | .lst xs => .ok (.tup xs.reverse)
  | _ => .bad
end Mir
namespace Mir
open PySem PySem.Spec PyProof.Rows L2
noncomputable def AllCa (ca : Nat → Addr) : List (Nat × Addr) → Prop
  | [] => True
  | p :: l => ca p.1 = p.2 ∧ AllCa ca l
theorem of_all {ca : Nat → Addr} : ∀ {l : List (Nat × Addr)}, AllCa ca l → ∀ p ∈ l, ca p.1 = p.2
  | [], _, _, h => nomatch h
  | _ :: _, h, p, hp => (List.mem_cons.mp hp).elim (fun e => e ▸ h.1) (of_all h.2 p)
theorem ac_n {ca : Nat → Addr} : AllCa ca [] := trivial
theorem ac_c {ca : Nat → Addr} {n : Nat} {a : Addr} {l : List (Nat × Addr)} (h : ca n = a) (t : AllCa ca l) : AllCa ca ((n, a) :: l) := ⟨h, t⟩
end Mir
namespace Mir
open PySem PySem.Spec PyProof.Rows L2
variable [Tn]
/-- a datum as a key by its worth -/
noncomputable def keyV (d : D) : Option Key := match d with
  | .int i => some (.inl i)
  | .str s => some (.inr s)
  | _ => none
noncomputable def getV : List Key → List D → Key → Option D
  | k :: ks, v :: vs, q => if k = q then some v else getV ks vs q
  | _, _, _ => none
noncomputable def hasV (ks : List Key) (q : Key) : Bool := ks.any fun k => decide (k = q)
noncomputable def repV : List Key → List D → Key → D → List D
  | k :: ks, v :: vs, q, x => (if k = q then x else v) :: repV ks vs q x
  | _, vs, _, _ => vs
noncomputable def setV (ks : List Key) (vs : List D) (q : Key) (x : D) : List Key × List D := if hasV ks q = true then (ks, repV ks vs q x) else (ks ++ [q], vs ++ [x])
section
variable {G : GC} {F : Hp}
theorem getV_at (q : Key) : ∀ {kvs : List (Key × V)} {vs : List D}, RepAll G F (kvs.map (·.2)) vs → (valV kvs q = none ∧ getV (kvs.map (·.1)) vs q = none) ∨ ∃ v d, valV kvs q = some v ∧ getV (kvs.map (·.1)) vs q = some d ∧ Rep G F v d
  | [], _, .nil => .inl ⟨rfl, rfl⟩
  | p :: kvs, _, .cons (d := d) r t => by
    by_cases e : p.1 = q
    · refine .inr ⟨p.2, d, valV_pos e, ?_, r⟩
      rw [List.map_cons, getV, if_pos e]
    · rcases getV_at q t with ⟨h1, h2⟩ | ⟨v, d', h1, h2, h3⟩
      · refine .inl ⟨(valV_neg e).trans h1, ?_⟩
        rw [List.map_cons, getV, if_neg e]
        exact h2
      · refine .inr ⟨v, d', (valV_neg e).trans h1, ?_, h3⟩
        rw [List.map_cons, getV, if_neg e]
        exact h2
theorem hasV_at (q : Key) (kvs : List (Key × V)) : hasV (kvs.map (·.1)) q = (valV kvs q).isSome := by
  rw [← valV_any q kvs]
  unfold hasV
  rw [List.any_map]
  rfl
theorem repV_at {q : Key} {y : V} {x : D} (ry : Rep G F y x) : ∀ {kvs : List (Key × V)} {vs : List D}, RepAll G F (kvs.map (·.2)) vs → RepAll G F ((kvs.map fun kv => if kv.1 = q then (kv.1, y) else kv).map (·.2)) (repV (kvs.map (·.1)) vs q x) ∧
    (kvs.map fun kv => if kv.1 = q then (kv.1, y) else kv).map (·.1) = kvs.map (·.1)
  | [], _, .nil => ⟨.nil, rfl⟩
  | p :: kvs, _, .cons r t => by
    obtain ⟨h1, h2⟩ := repV_at (q := q) ry t
    rw [List.map_cons, List.map_cons, List.map_cons, List.map_cons, repV, h2]
    by_cases e : p.1 = q
    · rw [if_pos e, if_pos e]
      exact ⟨.cons ry h1, rfl⟩
    · rw [if_neg e, if_neg e]
      exact ⟨.cons r h1, rfl⟩
theorem setV_at {q : Key} {y : V} {x : D} (ry : Rep G F y x) {kvs : List (Key × V)} {vs : List D} (h : RepAll G F (kvs.map (·.2)) vs) : RepAll G F ((putK kvs q y).map (·.2)) (setV (kvs.map (·.1)) vs q x).2 ∧ (setV (kvs.map (·.1)) vs q x).1 = (putK kvs q y).map (·.1) := by
  have e : hasV (kvs.map (·.1)) q = (kvs.any fun kv => decide (kv.1 = q)) := by rw [hasV_at, valV_any]
  unfold setV putK
  rw [e]
  split
  · obtain ⟨h1, h2⟩ := repV_at (q := q) ry h
    exact ⟨h1, h2.symm⟩
  · rw [List.map_append, List.map_append]
    exact ⟨h.append (.cons ry .nil), rfl⟩
end
theorem keyV_val {G : GC} {F H : Hp} {y : V} {d : D} {q : Key} (h : RdD G F H y d) (e : keyV d = some q) : y = kV q := by
  unfold keyV at e
  split at e <;> cases e
  · exact RdD.int h
  · exact RdD.str h
end Mir
namespace Mir
open PySem PySem.Spec PyProof.Rows L2
variable [Tn]
inductive Ox (α : Type) where
  | ok (a : α) (r : Env) | er (e : D) (r : Env) | bad
noncomputable def Ox.bind {α β : Type} (x : Ox α) (g : α → Env → Ox β) : Ox β := match x with
  | .ok a r => g a r
  | .er e r => .er e r
  | .bad => .bad
noncomputable def Ox.of {α : Type} (x : Res α) (r : Env) : Ox α := match x with
  | .ok a => .ok a r
  | .er e => .er e r
  | .bad => .bad
noncomputable def liftX {α : Type} (x : Ox α) (g : α → Env → Oc) : Oc := match x with
  | .ok a r => g a r
  | .er e r => .er e r
  | .bad => .bad
@[simp] theorem oxok_bind {α β : Type} (a : α) (r : Env) (g : α → Env → Ox β) : (Ox.ok a r).bind g = g a r := rfl
@[simp] theorem oxer_bind {α β : Type} (e : D) (r : Env) (g : α → Env → Ox β) : (Ox.er e r : Ox α).bind g = .er e r := rfl
@[simp] theorem oxbad_bind {α β : Type} (g : α → Env → Ox β) : (Ox.bad : Ox α).bind g = .bad := rfl
@[simp] theorem of_ok {α : Type} (a : α) (r : Env) : Ox.of (.ok a) r = .ok a r := rfl
@[simp] theorem of_er {α : Type} (e : D) (r : Env) : Ox.of (.er e : Res α) r = .er e r := rfl
@[simp] theorem of_bad {α : Type} (r : Env) : Ox.of (.bad : Res α) r = .bad := rfl
@[simp] theorem liftX_ok {α : Type} (a : α) (r : Env) (g : α → Env → Oc) : liftX (.ok a r) g = g a r := rfl
@[simp] theorem liftX_er {α : Type} (e : D) (r : Env) (g : α → Env → Oc) : liftX (.er e r : Ox α) g = .er e r := rfl
@[simp] theorem liftX_bad {α : Type} (g : α → Env → Oc) : liftX (.bad : Ox α) g = .bad := rfl
noncomputable def OutX (G : GC) (W : Wi) (σ : L2.St) {α : Type} (H0 F0 F : Hp) (P : (Nat → List Addr) → Hp → Hp → Env → α → Prop) : Ox α → Prop
  | .ok a r => ∀ fp F' H', Same F F' → MS G W.J H0 F0 fp F' σ H' r → P fp F' H' r a
  | .er e r => ∀ fp F' H' cls dd, Same F F' → MS G W.J H0 F0 fp F' σ H' r → ExcIs G F' cls dd e → W.w cls dd σ H'
  | .bad => False
section
variable {G : GC} {W : Wi} {σ : L2.St} {H0 F0 F F1 H : Hp} {fp : Nat → List Addr} {r : Env} {α β : Type}
theorem OutX.same {P : (Nat → List Addr) → Hp → Hp → Env → α → Prop} {x : Ox α} (h : OutX G W σ H0 F0 F P x) (s : Same F F1) : OutX G W σ H0 F0 F1 P x := by
  cases x with
  | ok a r => exact fun fp F' H' q m => h fp F' H' (s.trans q) m
  | er e r => exact fun fp F' H' cls dd q m x => h fp F' H' cls dd (s.trans q) m x
  | bad => exact h
theorem OutX.bind {P : (Nat → List Addr) → Hp → Hp → Env → β → Prop} {P1 : (Nat → List Addr) → Hp → Hp → Env → α → Prop} {x : Ox α} {g : α → Env → Ox β} (h : OutX G W σ H0 F0 F P (x.bind g))
    (i : ∀ fp F' H' r a, Same F F' → MS G W.J H0 F0 fp F' σ H' r → OutX G W σ H0 F0 F' P (g a r) → P1 fp F' H' r a) : OutX G W σ H0 F0 F P1 x := by
  cases x with
  | ok a r => exact fun fp F' H' q m => i fp F' H' r a q m (OutX.same h q)
  | er e r => exact h
  | bad => exact h
theorem OutX.of {P : (Nat → List Addr) → Hp → Hp → Env → α → Prop} {P1 : Hp → Hp → α → Prop} {x : Res α} (m : MS G W.J H0 F0 fp F σ H r) (h : OutX G W σ H0 F0 F P (Ox.of x r))
    (i : ∀ F' H' a, Grow F H F' H' → MS G W.J H0 F0 fp F' σ H' r → P fp F' H' r a → P1 F' H' a) : Out G W σ F H P1 x := by
  cases x with
  | ok a => exact fun F' H' g => i F' H' a g (m.grow g) (h fp F' H' g.f (m.grow g))
  | er e => exact fun cls dd F' H' g x => h fp F' H' cls dd g.f (m.grow g) x
  | bad => exact h
theorem OutX.val {P : (Nat → List Addr) → Hp → Hp → Env → α → Prop} {a : α} (m : MS G W.J H0 F0 fp F σ H r) (h : OutX G W σ H0 F0 F P (.ok a r)) : P fp F H r a := h fp F H (Same.refl _) m
end
end Mir
namespace Mir
open PySem PySem.Spec PyProof.Rows L2
variable [Tn]
/-- without the things at A -/
noncomputable def hide (H : Hp) (A : List Addr) : Hp := fun a => if a ∈ A then none else H a
section
variable {G : GC} {F H F' H' H0 F0 : Hp} {A B : List Addr}
theorem hide_ne {a : Addr} (h : a ∉ A) : hide H A a = H a := if_neg h
theorem hide_stays (hn : ∀ a ∈ A, ∀ ps, H a ≠ some (.tbl ps)) (st : Stays F0 H0 F H) (h0 : ∀ a ∈ A, H0 a = none) : Stays F0 H0 F (hide H A) where
  at' := fun a o e n => by rw [hide_ne fun z => by rw [h0 a z] at e; cases e]; exact st.at' a o e n
  tb := fun P ps e => by rw [hide_ne fun z => by rw [h0 P z] at e; cases e]; exact st.tb P ps e
  tf := fun P h => by
    obtain ⟨_, ps', e', _⟩ := id h
    obtain ⟨q0, ps, q1, q2⟩ := st.tf P h
    exact ⟨q0, ps, by rw [hide_ne fun z => hn P z ps q1]; exact q1, q2⟩
end
section
variable {G : GC} {J : L2.St → Prop} {H0 F0 F H F' H' : Hp} {fp : Nat → List Addr} {σ : L2.St} {r : Env} {j : Nat} {s : Shape} {d d2 : D} {B : List Addr} {p : Addr}
/-- behind a call that changed the j-th name's thing -/
theorem MS.after (m : MS G J H0 F0 fp F σ H r) (hj : r[j]? = some (.ow s d)) (hp : σ[j]? = some (some (.ref p))) (g : Grow F (hide H (fp j)) F' H') (ow : Own G F' H' s (.ref p) d2 B) (fr : ∀ b ∈ B, hide H (fp j) b = none) :
    MS G J H0 F0 (fun i => if i = j then B else fp i) F' σ H' (r.set j (.ow s d2)) := by
  obtain ⟨⟨v0, hv0, ow0⟩, hn⟩ := m.ow j s d hj
  have hil : j < r.length := (List.getElem?_eq_some_iff.mp hj).1
  have keep : ∀ (i : Nat) (t : Shape) (e : D), i ≠ j → r[i]? = some (.ow t e) → Keep (fp i) F H F' H' := fun i t e ne hi => by
    obtain ⟨⟨v, hv, o⟩, _⟩ := m.ow i t e hi
    have na : ∀ a ∈ fp i, a ∉ fp j := m.ap i j t s e d ne hi hj
    refine ⟨fun a ha u hu => g.h.at' a u (by rw [hide_ne (na a ha)]; exact hu) fun ps z => o.nt a ha ps (by rw [hu, z]), g.f, fun a ha e0 => ?_⟩
    cases q : F' a with
    | none => rfl
    | some u =>
      rcases g.new a u q with z | z
      · rw [e0] at z; cases z
      · rw [hide_ne (na a ha)] at z
        obtain ⟨_, w, hw⟩ := o.there a ha
        rw [z] at hw; cases hw
  refine ⟨m.jo, (hide_stays ow0.nt m.s0 hn).trans g.h, m.f0.trans g.f, g.sub, fun a u e => ?_, by simpa using m.len, fun i e h => ?_, fun i t e h => ?_, fun i k t u e1 e2 ne h1 h2 a => ?_, m.t0⟩
  · rcases g.new a u e with z | z
    · exact m.new a u z
    · by_cases ha : a ∈ fp j
      · exact .inr (hn a ha)
      · rw [hide_ne ha] at z
        exact .inr (m.s0.free z)
  · rcases get_set_slot h with ⟨_, z, _⟩ | ⟨ne, h⟩
    · cases z
    · obtain ⟨v, h1, h2⟩ := m.sh i e h
      exact ⟨v, h1, h2.mono g.f⟩
  · rcases get_set_slot h with ⟨rfl, z, _⟩ | ⟨ne, h⟩
    · cases z
      rw [if_pos rfl]
      refine ⟨⟨.ref p, hp, ow⟩, fun b hb => ?_⟩
      have z := fr b hb
      by_cases ha : b ∈ fp j
      · exact hn b ha
      · rw [hide_ne ha] at z
        exact m.s0.free z
    · rw [if_neg (Ne.symm ne)]
      obtain ⟨⟨v, h1, h2⟩, h3⟩ := m.ow i t e h
      exact ⟨⟨v, h1, h2.keep (keep i t e (Ne.symm ne) h)⟩, h3⟩
  · have other : ∀ (i : Nat) (t : Shape) (e : D), i ≠ j → r[i]? = some (.ow t e) → ∀ b ∈ B, b ∉ fp i := fun i t e ne hi b hb z => by
      obtain ⟨⟨_, _, o⟩, _⟩ := m.ow i t e hi
      obtain ⟨_, w, hw⟩ := o.there b z
      have q := fr b hb
      rw [hide_ne (m.ap i j t s e d ne hi hj b z), hw] at q
      cases q
    rcases get_set_slot h1 with ⟨rfl, _, _⟩ | ⟨n1, h1⟩
    · rcases get_set_slot h2 with ⟨z, _, _⟩ | ⟨n2, h2⟩
      · exact absurd z ne
      · rw [if_pos rfl, if_neg (Ne.symm n2)]
        exact other k u e2 (Ne.symm n2) h2 a
    · rcases get_set_slot h2 with ⟨rfl, _, _⟩ | ⟨n2, h2⟩
      · rw [if_pos rfl, if_neg (Ne.symm n1)]
        exact fun ha hb => other i t e1 (Ne.symm n1) h1 a hb ha
      · rw [if_neg (Ne.symm n1), if_neg (Ne.symm n2)]
        exact m.ap i k t u e1 e2 ne h1 h2 a
end
end Mir
namespace Mir
open PySem PySem.Spec PyProof.Rows L2
variable [Tn]
section
variable {G : GC} {J : L2.St → Prop} {H0 F0 F H : Hp} {fp : Nat → List Addr} {σ : L2.St} {r : Env}
theorem MS.dct (m : MS G J H0 F0 fp F σ H r) {i : Nat} {ks : List Key} {vs : List D} (h : r[i]? = some (.ow .flat (.dct ks vs))) : ∃ a kvs, σ[i]? = some (some (.ref a)) ∧ H a = some (.dK kvs) ∧ F a = none ∧ ks = kvs.map (·.1) ∧ RepAll G F (kvs.map (·.2)) vs ∧ fp i = [a] := by
  obtain ⟨⟨v, h1, h2⟩, _⟩ := m.ow i _ _ h
  generalize fp i = A at h2
  cases h2 with
  | dct _ e f z ra na =>
    obtain ⟨rfl, rr⟩ := ra.to_rep
    exact ⟨_, _, h1, e, f, z, rr, rfl⟩
end
section
variable {X : Cx} {W : Wi} {k m : Nat} {kk : Kd} {e iv : Expr} {fe fi : Env → Res D} {pos ps p2 apos cpos : Pos} {x : Str}
noncomputable def mergeV (ps : List (Key × D)) : D := let p := ps.foldl (fun (a : List Key × List D) kv => setV a.1 a.2 kv.1 kv.2) ([], []); .dct p.1 p.2
noncomputable def tPV (G : GC) (W : Wi) (trs : List (TE × TE)) (f : Env → Res (List (Key × D))) : Prop := ∀ (σ : L2.St) (H : Hp) (Q : List (V × V) → Hp → Prop), (∃ H0 F0 fp F r, MS G W.J H0 F0 fp F σ H r ∧ Out G W σ F H (fun F' H' ps => ∀ (kvs : List (Key × V)), kvs.map (·.1) = ps.map (·.1) → RepAll G F' (kvs.map (·.2)) (ps.map (·.2)) → Q (kvs.map fun kv => (kV kv.1, kv.2)) H') (f r)) → tPairs trs σ H Q
theorem foldV_at {G : GC} {F : Hp} : ∀ {kvs : List (Key × V)} {ps : List (Key × D)} {acc : List (Key × V)} {vs : List D}, kvs.map (·.1) = ps.map (·.1) → RepAll G F (kvs.map (·.2)) (ps.map (·.2)) → RepAll G F (acc.map (·.2)) vs →
    (ps.foldl (fun (a : List Key × List D) kv => setV a.1 a.2 kv.1 kv.2) (acc.map (·.1), vs)).1 = (mergeK acc kvs).map (·.1) ∧ RepAll G F ((mergeK acc kvs).map (·.2)) (ps.foldl (fun (a : List Key × List D) kv => setV a.1 a.2 kv.1 kv.2) (acc.map (·.1), vs)).2
  | [], [], acc, vs, _, _, r => ⟨rfl, r⟩
  | [], p :: ps, _, _, e, _, _ => by cases e
  | q :: kvs, [], _, _, e, _, _ => by cases e
  | q :: kvs, p :: ps, acc, vs, e, .cons r1 r2, r => by
    rw [List.map_cons, List.map_cons] at e
    injection e with e1 e2
    obtain ⟨z1, z2⟩ := setV_at (q := q.1) r1 r
    have ih := foldV_at (acc := putK acc q.1 q.2) e2 r2 z1
    rw [← z2] at ih
    rw [List.foldl_cons, ← e1]
    exact ih
structure DPs (X : Cx) (W : Wi) (pos : Pos) (keys : List (Option Expr)) (values : List Expr) (f : Env → Res (List (Key × D))) : Prop where
  ex : ∃ trs, PPs X pos keys values trs ∧ tPV (gOf X) W trs f
theorem dps_nil : DPs X W pos [] [] (fun _ => .ok []) := ⟨[], pps_nil, fun σ H Q ⟨H0, F0, fp, F, r, m, o⟩ => o F H (Grow.refl m.sub) [] rfl .nil⟩
theorem dps_cons {k v : Expr} {ks : List (Option Expr)} {vs : List Expr} {q : Key} {kd : D} {fv : Env → Res D} {g : Env → Res (List (Key × D))} (hk : RE X W .S k (fun _ => .ok kd)) (hq : keyV kd = some q) (hv : RE X W .S v fv) (hr : DPs X W pos ks vs g) :
    DPs X W pos (some k :: ks) (v :: vs) (fun r => fv r >>= fun vd => g r >>= fun ps => .ok ((q, vd) :: ps)) := by
  obtain ⟨trs, h1, h2⟩ := hr.ex
  refine ⟨(tE (gOf X) W .S fun _ => .ok kd, tE (gOf X) W .S fv) :: trs, pps_cons hk hv h1, fun σ H Q ⟨H0, F0, fp, F, r, m, o⟩ => ?_⟩
  refine ⟨H0, F0, fp, F, r, m, fun F1 H1 g1 kv kr => ⟨H0, F0, fp, F1, r, m.grow g1, (Out.grow o g1).bind fun F2 H2 vd g2 o2 w wr => ?_⟩⟩
  refine h2 σ H2 _ ⟨H0, F0, fp, F2, r, (m.grow g1).grow g2, o2.bind fun F3 H3 ps g3 o3 kvs e rr => ?_⟩
  rw [keyV_val (show RdD (gOf X) F1 H1 kv kd from Or.inl kr) hq]
  exact o3 F3 H3 (Grow.refl g3.sub) ((q, w) :: kvs) (by rw [List.map_cons, List.map_cons, e]) (.cons (Mir.Rep.mono g3.f wr) rr)
noncomputable def dispV (ps : List (Key × D)) : Res D := if ps.length ≤ 15 then .ok (mergeV ps) else .bad
theorem re_disp {keys : List (Option Expr)} {values : List Expr} {f : Env → Res (List (Key × D))} (h : DPs X W pos keys values f) (hall : keys.all (·.isSome) = true := by rfl) (hl : keys.length = values.length := by rfl) (h0 : keys ≠ [] := by simp) (h15 : keys.length ≤ 15 := by decide) :
    RE X W (.O .flat) (.Dict keys values pos) (fun r => f r >>= dispV) := by
  obtain ⟨trs, h1, h2⟩ := h.ex
  refine (pe_disp h1 hall hl h0 h15).imp fun σ H Q ⟨H0, F0, fp, F, r, m, o⟩ p hp => ?_
  have g0 : Grow F H F (upd H p (.dK [])) := Grow.own m.sub hp
  refine h2 σ _ _ ⟨H0, F0, fp, F, r, m.grow g0, ?_⟩
  dsimp only at o
  cases ef : f r with
  | bad => rw [ef] at o; exact o
  | er x => rw [ef] at o; exact fun cls dd F' H' g x => o cls dd F' H' (g0.trans g) x
  | ok ps =>
    rw [ef] at o
    intro F1 H1 g1 kvs e rr
    have hp1 : H1 p = some (.dK []) := g1.h.at _ _ upd_same
    have f1 : F1 p = none := by
      cases z : F1 p with
      | none => rfl
      | some u =>
        rcases g1.new p u z with q | q
        · rw [m.sub.free hp] at q; cases q
        · rw [upd_same] at q; cases q
    refine ⟨hp1, kvs, rfl, ?_⟩
    have o1 : Out (gOf X) W σ F H _ (dispV ps) := o
    unfold dispV at o1
    split at o1
    · rename_i h15
      have hlen : kvs.length ≤ 15 := by
        have := congrArg List.length e
        simp only [List.length_map] at this
        omega
      obtain ⟨z1, z2⟩ := foldV_at (acc := []) e rr .nil
      have g := g0.trans g1
      exact ⟨hlen, o1 F1 (upd H1 p (.dK (mergeK [] kvs))) ⟨g.h.upd hp, g.f, fun b u q => by rw [upd_ne (ne_of_none q f1)]; exact g.sub b u q, g.new⟩ (.ref p) ⟨[p], Own.dct rfl upd_same f1 z1 (OwnAll.of_rep z2) (by simp), fun a ha => by rw [List.mem_singleton.mp ha]; exact hp⟩⟩
    · exact o1.elim
end
end Mir
namespace Mir
open PySem PySem.Spec PyProof.Rows L2
/-- a key at hand -/
noncomputable def KeyIs (h : Heap) (k : NestedKey) (v : Value) : Prop := NestedIs h k v ∧ k.depth ≤ 8
noncomputable abbrev MN := NestedKey × Value × Value
noncomputable def entM (w : World) (y : MN) : DictEntry := ⟨y.1.hash w, y.2.1, y.2.2⟩
end Mir
namespace Mir
open PySem PySem.Spec PyProof.Rows L2
/-- at d stands a dict with these entries -/
noncomputable def DictM (w : World) (h : Heap) (d : Addr) (ys : List MN) : Prop := ∃ o es ep, h.get? d = some o ∧ o.ExactDict ∧ o.data = .dict es ep ∧ es.toList = ys.map (entM w) ∧ (∀ y ∈ ys, KeyIs h y.1 y.2.1) ∧ (ys.map (·.1)).Nodup
section
variable {prog : Program} {w : World} {A : Around} {E : Value → Shared → Prop} {s : Shared} {d : Addr} {ys : List MN} {k : NestedKey} {kv : Value}
theorem DictM.ty (h : DictM w s.heap d ys) : s.TypeIs (.ref d) "dict" := let ⟨o, _, _, e, x, _⟩ := h; ⟨o, e, x.1⟩
end
end Mir
namespace Mir
open PySem PySem.Spec PyProof.Rows L2
variable [Tn]
/-- whether the values stand in the other table, too -/
noncomputable def sameVK : List Key → List D → List Key → List D → Option Bool
  | k :: ks, v :: vs, ks2, vs2 => match getV ks2 vs2 k with
    | none => some false
    | some u => match eqS v u, sameVK ks vs ks2 vs2 with
      | .ok (.bl b), some c => some (b && c)
      | _, _ => none
  | _, _, _, _ => some true
noncomputable def sameV (ks : List Key) (vs : List D) (ks2 : List Key) (vs2 : List D) : Option Bool := if ks.length = ks2.length then sameVK ks vs ks2 vs2 else some false
noncomputable def neV (a b : D) : Res D := match a, b with
  | .dct ks vs, .dct ks2 vs2 => match sameV ks vs ks2 vs2 with
    | some b => .ok (.bl (!b))
    | none => .bad
  | a, b => neD a b
theorem ne_neV : NoEr2 neV := fun a b e z => by
  unfold neV at z
  split at z
  · split at z <;> cases z
  · exact ne_neD _ _ _ z
section
variable {X : Cx} {pins : List (Addr × Obj)} {σ : L2.St} {H F : Hp} {s : Shared} {k : Nat}
theorem eqAt_of (I : L2.Inv X pins σ H s) (sF : Same F H) (hr : X.A.units + 65 < cLine) {v u : V} {x y : Value} {d e : D} {b : Bool} (h : eqS d e = .ok (.bl b)) (rv : Rep (gOf X) F v d) (ru : Rep (gOf X) F u e) (hx : RelV v x) (hy : RelV u y) : SeqAt.EqAt X.A.in1 s x y b := by
  unfold eqS at h
  split at h
  · rename_i p q h1 h2
    split at h
    · rename_i hs
      injection h with h
      injection h with h
      subst h
      obtain ⟨as, r1⟩ := Dp.reads I p v x (rv.dp sF h1) hx
      obtain ⟨bs, r2⟩ := Dp.reads I q u y (ru.dp sF h2) hy
      exact PySem.W.keq_at (A := X.A) r1 r2 hs.1 hs.2 (show X.A.units + 1 + 64 < cLine by omega)
    · cases h
  · cases h
theorem hitsV_of (I : L2.Inv X pins σ H s) (sF : Same F H) (hr : X.A.units + 65 < cLine) {kvs2 : List (Key × V)} {us : List (Key × Value)} {vs2 : List D} (rel2 : KV kvs2 us) (r2 : RepAll (gOf X) F (kvs2.map (·.2)) vs2) :
    ∀ {kvs : List (Key × V)} {vals : List (Key × Value)} {vs : List D} {b : Bool}, KV kvs vals → RepAll (gOf X) F (kvs.map (·.2)) vs → sameVK (kvs.map (·.1)) vs (kvs2.map (·.1)) vs2 = some b → PySem.W.KeqHits X.A.in1 s us vals b := by
  intro kvs vals vs b rel r e
  unfold KV at rel
  induction rel generalizing vs b with
  | nil =>
    rw [List.map_nil] at e
    simp [sameVK] at e
    subst e
    exact .nil
  | @cons p q ps qs h t ih =>
    obtain ⟨h1, h2⟩ := h
    rw [List.map_cons] at r e
    cases r with
    | cons r1 rr =>
      rename_i d ds
      rw [sameVK] at e
      obtain ⟨k, v⟩ := q
      simp only at h1 h2
      subst h1
      have rl := rel2.val p.1
      rcases getV_at p.1 r2 with ⟨z1, z2⟩ | ⟨u, du, z1, z2, z3⟩
      · rw [z2] at e
        cases e
        rw [z1] at rl
        refine .miss ?_
        cases hv : valueAt us p.1 with
        | none => rfl
        | some y => rw [hv] at rl; exact (show False from rl).elim
      · rw [z2] at e
        simp only at e
        split at e
        · rename_i b1 c he hc
          cases e
          rw [z1] at rl
          obtain ⟨y, hy, ry⟩ := RelO.some_of (v := u) rl
          exact .hit hy (eqAt_of I sF hr he r1 z3 h2 ry) (ih rr hc)
        · cases e
noncomputable def rVV (X : Cx) (P : Bool → Hp → Prop) : V → V → Hp → Prop := fun x y H => ∃ (F : Hp) (p p2 : Addr) (kvs kvs2 : List (Key × V)) (vs vs2 : List D) (b : Bool), x = .ref p ∧ y = .ref p2 ∧ Same F H ∧ (H p = some (.dK kvs) ∨ KDct (gOf X) p kvs) ∧ (H p2 = some (.dK kvs2) ∨ KDct (gOf X) p2 kvs2) ∧
  RepAll (gOf X) F (kvs.map (·.2)) vs ∧ RepAll (gOf X) F (kvs2.map (·.2)) vs2 ∧ sameV (kvs.map (·.1)) vs (kvs2.map (·.1)) vs2 = some b ∧ P b H
theorem op_neVV (hr : Room k X.A) : OpR X (compareOp .NotEq) (fun x y H Q => rVV X (fun b H => Q (.bl (!b)) H) x y H) := by
  intro pins s σ H x y u1 u2 Q I r1 r2 h
  obtain ⟨F, p, p2, kvs, kvs2, vs, vs2, b, rfl, rfl, sF, hp, hp2, ra, ra2, hb, hq⟩ := h
  cases r1
  cases r2
  have hu := hr.un
  obtain ⟨_, n1, us, rel, dd⟩ := dk_any I hp
  obtain ⟨_, n2, us2, rel2, dd2⟩ := dk_any I hp2
  have l1 : kvs.length = us.length := Paired.length rel
  have l2 : kvs2.length = us2.length := Paired.length rel2
  unfold sameV at hb
  rw [List.length_map, List.length_map] at hb
  split at hb
  · rename_i hl
    refine PySem.W.keq_ne n1 n2 dd dd2 (by omega) (fun _ => hitsV_of I sF (by omega) rel2 ra2 rel ra hb) ⟨.bl (!b), H, I, ?_, hq⟩
    rw [show us.length = us2.length by omega, beq_self_eq_true, Bool.true_and]
    rfl
  · rename_i hl
    cases hb
    refine PySem.W.keq_ne (r := false) n1 n2 dd dd2 (by omega) (fun z => (hl (by omega)).elim) ⟨.bl true, H, I, ?_, hq⟩
    rw [Bool.and_false]
    rfl
theorem c_neV (hr : Room k X.A) : Cmp X .NotEq neV := ⟨⟨_, ((op_neD hr.units).or (op_cmpH hr (.inr ⟨rfl, rfl⟩))).or (op_neVV hr), fun F H x y a b d Q Ha Hb s ka kb e kk => by
  unfold neV at e
  split at e
  · split at e <;> cases e
    rename_i hb
    obtain ⟨p, kvs, rfl, h1, rfl, h2⟩ := RdD.dct s (show RdD (gOf X) F H x _ from ka)
    obtain ⟨p2, kvs2, rfl, h3, rfl, h4⟩ := RdD.dct s (show RdD (gOf X) F H y _ from kb)
    exact .inr ⟨F, p, p2, kvs, kvs2, _, _, _, rfl, rfl, s, h1, h3, h2, h4, hb, kk _ F H (Grow.refl s) (Rep.bl _)⟩
  · exact .inl (neD_ok' F H x y _ _ d Q Ha Hb s ka kb e kk)⟩, ne_neV⟩
end
end Mir
namespace Mir
open PySem PySem.Spec PyProof.Rows L2
variable [Tn]
section
variable {G : GC} {J : L2.St → Prop} {H0 F0 F H : Hp} {fp : Nat → List Addr} {σ : L2.St} {r : Env}
theorem MS.mix (m : MS G J H0 F0 fp F σ H r) {i : Nat} {ks vs : List D} {k : Key} {x : D} (h : r[i]? = some (.ow .flat (.mix ks vs k x))) : ∃ a o xs ws u y, σ[i]? = some (some (.ref a)) ∧ H a = some (.ext (isObj' a o)) ∧ (a == sysModules) = false ∧ MixO G o xs k u ∧ DR G F xs ws ks vs ∧ RelV y u ∧ Rep G F y x ∧ fp i = [a] := by
  obtain ⟨⟨v, h1, h2⟩, _⟩ := m.ow i _ _ h
  generalize fp i = A at h2
  cases h2 with
  | mix _ e _ z1 z2 z3 z4 z5 z6 z7 z8 => exact ⟨_, _, _, _, _, _, h1, e, z1, z2, ⟨z3, z4, z5, z6⟩, z7, z8, rfl⟩
end
end Mir
set_option maxHeartbeats 0
namespace Mir.K02
open PySem PySem.Spec PyProof.Rows L2
noncomputable def top (i : Nat) : Stmt := PySem.Challenge.pw_carrytower_k02_no_rounds.main.body.getD i (.Pass ⟨0, 0, 0, 0⟩)
section
variable [Tn]
noncomputable abbrev isC : List Nat := [10, 11, 12, 22, 0]
noncomputable abbrev isU : List Nat := [11, 12, 22]
noncomputable abbrev ctC : List Nat := [10, 11, 12, 22]
noncomputable abbrev ctU : List Nat := [10]
noncomputable abbrev s_q_cell : Stmt := top 14
noncomputable abbrev N_q_cell : List Str := ["_law_script", "_law_k", "_law_cell_here", "_law_first"]
theorem sc_q_cell : FnScope N_q_cell ["_law_script", "_law_k"] (defScope s_q_cell) := ⟨rfl, rfl, rfl, by decide +kernel, rfl, by decide +kernel, by decide +kernel⟩
noncomputable abbrev s_q_number : Stmt := top 17
noncomputable abbrev N_q_number : List Str := ["_law_cell_here"]
theorem sc_q_number : FnScope N_q_number ["_law_cell_here"] (defScope s_q_number) := ⟨rfl, rfl, rfl, by decide +kernel, rfl, by decide +kernel, by decide +kernel⟩
noncomputable abbrev s_q_odd : Stmt := top 18
noncomputable abbrev N_q_odd : List Str := ["_law_cell_here", "_law_things"]
theorem sc_q_odd : FnScope N_q_odd ["_law_cell_here"] (defScope s_q_odd) := ⟨rfl, rfl, rfl, by decide +kernel, rfl, by decide +kernel, by decide +kernel⟩
noncomputable abbrev s_q_whole : Stmt := top 15
noncomputable abbrev N_q_whole : List Str := ["_law_found"]
theorem sc_q_whole : FnScope N_q_whole ["_law_found"] (defScope s_q_whole) := ⟨rfl, rfl, rfl, by decide +kernel, rfl, by decide +kernel, by decide +kernel⟩
noncomputable abbrev s_q_due : Stmt := top 19
noncomputable abbrev N_q_due : List Str := ["_law_thing", "_law_many", "_law_number_here"]
theorem sc_q_due : FnScope N_q_due ["_law_thing"] (defScope s_q_due) := ⟨rfl, rfl, rfl, by decide +kernel, rfl, by decide +kernel, by decide +kernel⟩
noncomputable abbrev s_q_same : Stmt := top 16
noncomputable abbrev N_q_same : List Str := ["_law_found", "_law_due_here", "_law_number_here"]
theorem sc_q_same : FnScope N_q_same ["_law_found", "_law_due_here"] (defScope s_q_same) := ⟨rfl, rfl, rfl, by decide +kernel, rfl, by decide +kernel, by decide +kernel⟩
noncomputable abbrev s_is_whole : Stmt := top 9
noncomputable abbrev N_is_whole : List Str := ["thing"]
theorem sc_is_whole : FnScope N_is_whole ["thing"] (defScope s_is_whole) := ⟨rfl, rfl, rfl, by decide +kernel, rfl, by decide +kernel, by decide +kernel⟩
noncomputable abbrev s_are_rounds : Stmt := top 10
noncomputable abbrev N_are_rounds : List Str := ["thing", "many", "number"]
theorem sc_are_rounds : FnScope N_are_rounds ["thing"] (defScope s_are_rounds) := ⟨rfl, rfl, rfl, by decide +kernel, rfl, by decide +kernel, by decide +kernel⟩
noncomputable abbrev s_Rounds_init : Stmt := inClass (top 12) 0
noncomputable abbrev N_Rounds_init : List Str := ["self", "rounds"]
theorem sc_Rounds_init : FnScope N_Rounds_init ["self", "rounds"] (defScope s_Rounds_init) := ⟨rfl, rfl, rfl, by decide +kernel, rfl, by decide +kernel, by decide +kernel⟩
noncomputable abbrev s_q_refused : Stmt := top 20
noncomputable abbrev N_q_refused : List Str := ["_law_thing", "_law_kinds", "e"]
theorem sc_q_refused : FnScope N_q_refused ["_law_thing"] (defScope s_q_refused) := ⟨rfl, rfl, rfl, by decide +kernel, rfl, by decide +kernel, by decide +kernel⟩
noncomputable abbrev s_law : Stmt := top 21
noncomputable abbrev N_law : List Str := ["_law_script", "_law_k", "_law_cell_here", "_law_thing", "_law_kept", "_law_j"]
theorem sc_law : FnScope N_law ["_law_script"] (defScope s_law) := ⟨rfl, rfl, rfl, by decide +kernel, rfl, by decide +kernel, by decide +kernel⟩
noncomputable def e_q_cell : Env → Oc := fun r => (lift (.ok (.int 0)) r fun d => .nx (r.set 2 (.sh d))).seq fun r => ((lift (((((getS 0 r) >>= fun d => (.ok []) >>= fun ds => .ok (d :: ds)) >>= one lenD) >>= fun x => (.ok (.int 0)) >>= fun y => gtD x y) >>= asB) r fun t => if t = true then (lift ((getS 0 r) >>= fun x => ((getS 1 r) >>= fun x => (((getS 0 r) >>= fun d => (.ok []) >>= fun ds => .ok (d :: ds)) >>= one lenD) >>= fun y => modD x y) >>= fun y => ixD x y) r fun d => .nx (r.set 2 (.sh d))) else (.nx r)).seq fun r => ((lift ((((((getS 0 r) >>= fun d => (.ok []) >>= fun ds => .ok (d :: ds)) >>= one sumD) >>= fun x => (.ok (.int 2)) >>= fun y => modD x y) >>= fun x => (.ok (.int 1)) >>= fun y => eqD x y) >>= asB) r fun t => if t = true then (lift (getS 2 r) r fun d => .rt d) else (.nx r)).seq fun r => ((lift ((((((getS 2 r) >>= fun x => (.ok (.int 1000000007)) >>= fun y => modD x y) >>= fun x => ((.ok (.int 7919)) >>= fun x => (getS 1 r) >>= fun y => mulD x y) >>= fun y => addD x y) >>= fun x => (.ok (.int 11)) >>= fun y => addD x y) >>= fun x => (.ok (.int 48271)) >>= fun y => mulD x y) >>= fun x => (.ok (.int 2147483647)) >>= fun y => modD x y) r fun d => .nx (r.set 3 (.sh d))).seq fun r => (lift ((((((getS 3 r) >>= fun x => (.ok (.int 69621)) >>= fun y => mulD x y) >>= fun x => ((.ok (.int 17)) >>= fun x => (getS 1 r) >>= fun y => mulD x y) >>= fun y => addD x y) >>= fun x => (.ok (.int 2147483629)) >>= fun y => modD x y) >>= fun x => (.ok (.int 2147483647)) >>= fun y => mulD x y) >>= fun x => (((getS 3 r) >>= fun x => (.ok (.int 16807)) >>= fun y => mulD x y) >>= fun x => (.ok (.int 2147483647)) >>= fun y => modD x y) >>= fun y => addD x y) r fun d => .rt d))))
noncomputable def d_q_cell : List D → Res D := runD 2 N_q_cell.length e_q_cell
noncomputable def e_q_number : Env → Oc := fun r => (lift ((((getS 0 r) >>= fun x => (.ok (.int 6)) >>= fun y => modD x y) >>= fun x => (.ok (.int 0)) >>= fun y => gtD x y) >>= asB) r fun t => if t = true then (lift ((.ok (.int 2)) >>= fun x => (((getS 0 r) >>= fun x => (.ok (.int 6)) >>= fun y => divD x y) >>= fun x => ((((.ok (.int 3)) >>= fun d => ((.ok (.int 3)) >>= fun d => ((.ok (.int 11)) >>= fun d => ((.ok (.int 30)) >>= fun d => (.ok []) >>= fun ds => .ok (d :: ds)) >>= fun ds => .ok (d :: ds)) >>= fun ds => .ok (d :: ds)) >>= fun ds => .ok (d :: ds)) >>= lstD) >>= fun x => (((getS 0 r) >>= fun x => (.ok (.int 600)) >>= fun y => divD x y) >>= fun x => (.ok (.int 4)) >>= fun y => modD x y) >>= fun y => ixD x y) >>= fun y => modD x y) >>= fun y => addD x y) r fun d => .rt d) else (.nx r)).seq fun r => (lift ((((.ok (.int 0)) >>= fun d => ((.ok (.int 1)) >>= fun d => (((.ok (.int 2)) >>= negD) >>= fun d => ((.ok (.int 145)) >>= fun d => ((.ok (.int 144)) >>= fun d => (((.ok (.int 72)) >>= fun x => (((getS 0 r) >>= fun x => (.ok (.int 60)) >>= fun y => divD x y) >>= fun x => (.ok (.int 80)) >>= fun y => modD x y) >>= fun y => addD x y) >>= fun d => (((.ok (.int 10)) >>= fun x => (.ok (.int 25)) >>= fun y => powD x y) >>= fun d => ((((.ok (.int 1)) >>= negD) >>= fun x => (((getS 0 r) >>= fun x => (.ok (.int 60)) >>= fun y => divD x y) >>= fun x => ((.ok (.int 10)) >>= fun x => (.ok (.int 9)) >>= fun y => powD x y) >>= fun y => modD x y) >>= fun y => subD x y) >>= fun d => (.ok []) >>= fun ds => .ok (d :: ds)) >>= fun ds => .ok (d :: ds)) >>= fun ds => .ok (d :: ds)) >>= fun ds => .ok (d :: ds)) >>= fun ds => .ok (d :: ds)) >>= fun ds => .ok (d :: ds)) >>= fun ds => .ok (d :: ds)) >>= fun ds => .ok (d :: ds)) >>= lstD) >>= fun x => (((getS 0 r) >>= fun x => (.ok (.int 6)) >>= fun y => divD x y) >>= fun x => (.ok (.int 8)) >>= fun y => modD x y) >>= fun y => ixD x y) r fun d => .rt d)
noncomputable def d_q_number : List D → Res D := runD 1 N_q_number.length e_q_number
noncomputable def e_q_odd : Env → Oc := fun r => (lift (((.ok .non) >>= fun d => ((.ok (.bl true)) >>= fun d => ((.ok (.int 2)) >>= fun d => ((.ok (.str "")) >>= fun d => ((.ok (.str "2x2")) >>= fun d => ((.ok (.dic [] [])) >>= fun d => (((.ok []) >>= tupD) >>= fun d => (((.ok []) >>= lstD) >>= fun d => ((((.ok (.bl true)) >>= fun d => (.ok []) >>= fun ds => .ok (d :: ds)) >>= lstD) >>= fun d => ((((.ok (.int 2)) >>= fun d => ((.ok (.bl true)) >>= fun d => (.ok []) >>= fun ds => .ok (d :: ds)) >>= fun ds => .ok (d :: ds)) >>= lstD) >>= fun d => ((((.ok (.str "2")) >>= fun d => (.ok []) >>= fun ds => .ok (d :: ds)) >>= lstD) >>= fun d => ((((((.ok (.int 2)) >>= fun d => (.ok []) >>= fun ds => .ok (d :: ds)) >>= lstD) >>= fun d => (.ok []) >>= fun ds => .ok (d :: ds)) >>= lstD) >>= fun d => ((((.ok .non) >>= fun d => (.ok []) >>= fun ds => .ok (d :: ds)) >>= lstD) >>= fun d => ((((.ok (.int 2)) >>= fun d => ((((.ok (.int 2)) >>= fun d => (.ok []) >>= fun ds => .ok (d :: ds)) >>= tupD) >>= fun d => (.ok []) >>= fun ds => .ok (d :: ds)) >>= fun ds => .ok (d :: ds)) >>= tupD) >>= fun d => ((((.ok (.int 2)) >>= fun vd => (.ok []) >>= fun ps => .ok (((.inl 2 : Key), vd) :: ps)) >>= dispV) >>= fun d => ((((.ok (.int 2)) >>= fun d => (((.ok []) >>= lstD) >>= fun d => (.ok []) >>= fun ds => .ok (d :: ds)) >>= fun ds => .ok (d :: ds)) >>= lstD) >>= fun d => (.ok []) >>= fun ds => .ok (d :: ds)) >>= fun ds => .ok (d :: ds)) >>= fun ds => .ok (d :: ds)) >>= fun ds => .ok (d :: ds)) >>= fun ds => .ok (d :: ds)) >>= fun ds => .ok (d :: ds)) >>= fun ds => .ok (d :: ds)) >>= fun ds => .ok (d :: ds)) >>= fun ds => .ok (d :: ds)) >>= fun ds => .ok (d :: ds)) >>= fun ds => .ok (d :: ds)) >>= fun ds => .ok (d :: ds)) >>= fun ds => .ok (d :: ds)) >>= fun ds => .ok (d :: ds)) >>= fun ds => .ok (d :: ds)) >>= fun ds => .ok (d :: ds)) >>= lstD) r fun d => .nx (r.set 1 (.sh d))).seq fun r => ((lift ((getS 1 r) >>= fun x => (((.ok (.str "22")) >>= fun d => ((((.ok (.int 2)) >>= fun d => ((.ok (.int 2)) >>= fun d => ((.ok (.str "x")) >>= fun d => (.ok []) >>= fun ds => .ok (d :: ds)) >>= fun ds => .ok (d :: ds)) >>= fun ds => .ok (d :: ds)) >>= lstD) >>= fun d => ((((.ok (.int 144)) >>= fun d => (.ok []) >>= fun ds => .ok (d :: ds)) >>= tupD) >>= fun d => ((((.ok (.int 145)) >>= fun d => (.ok []) >>= fun ds => .ok (d :: ds)) >>= lstD) >>= fun d => ((((.ok (.int 12)) >>= fun d => ((.ok (.int 12)) >>= fun d => (.ok []) >>= fun ds => .ok (d :: ds)) >>= fun ds => .ok (d :: ds)) >>= lstD) >>= fun d => ((((.ok (.int 12)) >>= fun d => ((.ok (.int 13)) >>= fun d => (.ok []) >>= fun ds => .ok (d :: ds)) >>= fun ds => .ok (d :: ds)) >>= lstD) >>= fun d => ((((.ok (.int 2)) >>= fun d => ((.ok (.int 2)) >>= fun d => ((.ok (.int 2)) >>= fun d => ((.ok (.int 2)) >>= fun d => ((.ok (.int 2)) >>= fun d => ((.ok (.int 2)) >>= fun d => ((.ok (.int 2)) >>= fun d => (.ok []) >>= fun ds => .ok (d :: ds)) >>= fun ds => .ok (d :: ds)) >>= fun ds => .ok (d :: ds)) >>= fun ds => .ok (d :: ds)) >>= fun ds => .ok (d :: ds)) >>= fun ds => .ok (d :: ds)) >>= fun ds => .ok (d :: ds)) >>= tupD) >>= fun d => (((((.ok (.int 2)) >>= fun d => (.ok []) >>= fun ds => .ok (d :: ds)) >>= lstD) >>= fun x => (.ok (.int 8)) >>= fun y => mulD x y) >>= fun d => (((((.ok (.int 3)) >>= fun d => (.ok []) >>= fun ds => .ok (d :: ds)) >>= lstD) >>= fun x => (.ok (.int 5)) >>= fun y => mulD x y) >>= fun d => (.ok []) >>= fun ds => .ok (d :: ds)) >>= fun ds => .ok (d :: ds)) >>= fun ds => .ok (d :: ds)) >>= fun ds => .ok (d :: ds)) >>= fun ds => .ok (d :: ds)) >>= fun ds => .ok (d :: ds)) >>= fun ds => .ok (d :: ds)) >>= fun ds => .ok (d :: ds)) >>= fun ds => .ok (d :: ds)) >>= lstD) >>= fun y => addD x y) r fun d => .nx (r.set 1 (.sh d))).seq fun r => (lift ((getS 1 r) >>= fun x => ((getS 0 r) >>= fun x => (((getS 1 r) >>= fun d => (.ok []) >>= fun ds => .ok (d :: ds)) >>= one lenD) >>= fun y => modD x y) >>= fun y => ixD x y) r fun d => .rt d))
noncomputable def d_q_odd : List D → Res D := runD 1 N_q_odd.length e_q_odd
noncomputable def e_q_whole : Env → Oc := fun r => lift (((((getS 0 r) >>= fun d => ((.ok (.ty "int")) >>= fun d => (.ok []) >>= fun ds => .ok (d :: ds)) >>= fun ds => .ok (d :: ds)) >>= two (isD isC isU)) >>= asB) >>= fun t => if t = true then (((((getS 0 r) >>= fun d => ((.ok (.ty "bool")) >>= fun d => (.ok []) >>= fun ds => .ok (d :: ds)) >>= fun ds => .ok (d :: ds)) >>= two (isD isC isU)) >>= asB) >>= fun t => .ok (.bl (!t))) else .ok (.bl false)) r fun d => .rt d
noncomputable def d_q_whole : List D → Res D := runD 1 N_q_whole.length e_q_whole
noncomputable def q_due_l1 : D → Env → Oc := fun d r => (into ((nameG 2) d r)).seq fun r => ((lift ((((((getS 2 r) >>= fun d => (.ok []) >>= fun ds => .ok (d :: ds)) >>= d_q_whole) >>= asB) >>= fun t => .ok (!t)) >>= fun t => if t = true then .ok true else (((getS 2 r) >>= fun x => (.ok (.int 2)) >>= fun y => ltD x y) >>= asB)) r fun t => if t = true then (lift (.ok (.bl false)) r fun d => .rt d) else (.nx r)).seq fun r => (lift ((getS 1 r) >>= fun x => (getS 2 r) >>= fun y => mulD x y) r fun d => .nx (r.set 1 (.sh d))))
noncomputable def e_q_due : Env → Oc := fun r => (lift ((((((getS 0 r) >>= fun d => ((.ok (.ty "list")) >>= fun d => (.ok []) >>= fun ds => .ok (d :: ds)) >>= fun ds => .ok (d :: ds)) >>= two (isD isC isU)) >>= asB) >>= fun t => .ok (!t)) >>= fun t => if t = true then (((((getS 0 r) >>= fun d => ((.ok (.ty "tuple")) >>= fun d => (.ok []) >>= fun ds => .ok (d :: ds)) >>= fun ds => .ok (d :: ds)) >>= two (isD isC isU)) >>= asB) >>= fun t => .ok (!t)) else .ok false) r fun t => if t = true then (lift (.ok (.bl false)) r fun d => .rt d) else (.nx r)).seq fun r => ((lift (.ok (.int 1)) r fun d => .nx (r.set 1 (.sh d))).seq fun r => ((lift ((getS 0 r) >>= itemsD) r fun ds => forD (q_due_l1) ds r).seq fun r => (lift ((((((getS 0 r) >>= fun d => (.ok []) >>= fun ds => .ok (d :: ds)) >>= one lenD) >>= fun x => (.ok (.int 8)) >>= fun y => ltD x y) >>= asB) >>= fun t => if t = true then ((getS 1 r) >>= fun x => (.ok (.int 144)) >>= fun y => leD x y) else .ok (.bl false)) r fun d => .rt d)))
noncomputable def d_q_due : List D → Res D := runD 1 N_q_due.length e_q_due
noncomputable def q_same_c1 (r : Env) (ds : List D) : Res (List D) := lcD (nameG 2)
  (fun r => .ok true)
  (fun r => ((getS 2 r) >>= fun d => (.ok []) >>= fun ds => .ok (d :: ds)) >>= d_q_whole)
  (wipeR r [2]) ds
noncomputable def e_q_same : Env → Oc := fun r => (lift ((((((getS 0 r) >>= fun d => ((.ok (.ty "tuple")) >>= fun d => (.ok []) >>= fun ds => .ok (d :: ds)) >>= fun ds => .ok (d :: ds)) >>= two (isD isC isU)) >>= asB) >>= fun t => .ok (!t)) >>= fun t => if t = true then .ok true else (((((getS 0 r) >>= fun d => (.ok []) >>= fun ds => .ok (d :: ds)) >>= one lenD) >>= fun x => (((getS 1 r) >>= fun d => (.ok []) >>= fun ds => .ok (d :: ds)) >>= one lenD) >>= fun y => neD x y) >>= asB)) r fun t => if t = true then (lift (.ok (.bl false)) r fun d => .rt d) else (.nx r)).seq fun r => (lift (((((((getS 0 r) >>= itemsD) >>= fun ds => q_same_c1 r ds >>= lstD) >>= fun d => (.ok []) >>= fun ds => .ok (d :: ds)) >>= one allT) >>= asB) >>= fun t => if t = true then ((getS 0 r) >>= fun x => (getS 1 r) >>= fun y => eqD x y) else .ok (.bl false)) r fun d => .rt d)
noncomputable def d_q_same : List D → Res D := runD 2 N_q_same.length e_q_same
noncomputable def e_is_whole : Env → Oc := fun r => lift (((((getS 0 r) >>= fun d => ((.ok (.ty "int")) >>= fun d => (.ok []) >>= fun ds => .ok (d :: ds)) >>= fun ds => .ok (d :: ds)) >>= two (isD isC isU)) >>= asB) >>= fun t => if t = true then (((((getS 0 r) >>= fun d => ((.ok (.ty "bool")) >>= fun d => (.ok []) >>= fun ds => .ok (d :: ds)) >>= fun ds => .ok (d :: ds)) >>= two (isD isC isU)) >>= asB) >>= fun t => .ok (.bl (!t))) else .ok (.bl false)) r fun d => .rt d
noncomputable def d_is_whole : List D → Res D := runD 1 N_is_whole.length e_is_whole
noncomputable def are_rounds_l1 : D → Env → Oc := fun d r => (into ((nameG 2) d r)).seq fun r => ((lift ((((((getS 2 r) >>= fun d => (.ok []) >>= fun ds => .ok (d :: ds)) >>= d_is_whole) >>= asB) >>= fun t => .ok (!t)) >>= fun t => if t = true then .ok true else ((((getS 2 r) >>= fun x => (.ok (.int 2)) >>= fun y => ltD x y) >>= asB) >>= fun t => if t = true then .ok true else (((getS 2 r) >>= fun x => (.ok (.int 144)) >>= fun y => gtD x y) >>= asB))) r fun t => if t = true then (lift (.ok (.bl false)) r fun d => .rt d) else (.nx r)).seq fun r => (lift ((getS 1 r) >>= fun x => (getS 2 r) >>= fun y => mulD x y) r fun d => .nx (r.set 1 (.sh d))))
noncomputable def e_are_rounds : Env → Oc := fun r => (lift ((((((getS 0 r) >>= fun d => ((((.ok (.ty "list")) >>= fun d => ((.ok (.ty "tuple")) >>= fun d => (.ok []) >>= fun ds => .ok (d :: ds)) >>= fun ds => .ok (d :: ds)) >>= tupD) >>= fun d => (.ok []) >>= fun ds => .ok (d :: ds)) >>= fun ds => .ok (d :: ds)) >>= two (isD isC isU)) >>= asB) >>= fun t => .ok (!t)) >>= fun t => if t = true then .ok true else (((((getS 0 r) >>= fun d => (.ok []) >>= fun ds => .ok (d :: ds)) >>= one lenD) >>= fun x => (.ok (.int 7)) >>= fun y => gtD x y) >>= asB)) r fun t => if t = true then (lift (.ok (.bl false)) r fun d => .rt d) else (.nx r)).seq fun r => ((lift (.ok (.int 1)) r fun d => .nx (r.set 1 (.sh d))).seq fun r => ((lift ((getS 0 r) >>= itemsD) r fun ds => forD (are_rounds_l1) ds r).seq fun r => (lift ((getS 1 r) >>= fun x => (.ok (.int 144)) >>= fun y => leD x y) r fun d => .rt d)))
noncomputable def d_are_rounds : List D → Res D := runD 1 N_are_rounds.length e_are_rounds
noncomputable def e_Rounds_init : Env → Oc := fun r => (lift (((((getS 1 r) >>= fun d => (.ok []) >>= fun ds => .ok (d :: ds)) >>= d_are_rounds) >>= asB) >>= fun t => .ok (!t)) r fun t => if t = true then (.er (.exc 11 []) r) else (.nx r)).seq fun r => (lift (((getS 1 r) >>= fun d => (.ok []) >>= fun ds => .ok (d :: ds)) >>= one tupleD) r fun d => setF 0 0 "rounds" .sh d r)
noncomputable def d_Rounds_init : List D → Res D := runI 1 N_Rounds_init.length 0 e_Rounds_init
noncomputable def e_q_refused : Env → Oc := fun r => (lift ((.ok []) >>= lstD) r fun d => .nx (r.set 1 (.sh d))).seq fun r => ((tryD ctC ctU (fun r => lift (((getS 0 r) >>= fun d => (.ok []) >>= fun ds => .ok (d :: ds)) >>= d_Rounds_init) r fun _ => .nx r) [⟨10, some 2, fun r => lift (((((getS 2 r) >>= fun d => ((.ok (.cls 11)) >>= fun d => (.ok []) >>= fun ds => .ok (d :: ds)) >>= fun ds => .ok (d :: ds)) >>= two (isD isC isU)) >>= fun d => ((((getS 2 r) >>= fun d => ((.ok (.ty "ValueError")) >>= fun d => (.ok []) >>= fun ds => .ok (d :: ds)) >>= fun ds => .ok (d :: ds)) >>= two (isD isC isU)) >>= fun d => ((((getS 2 r) >>= fun d => ((.ok (.cls 12)) >>= fun d => (.ok []) >>= fun ds => .ok (d :: ds)) >>= fun ds => .ok (d :: ds)) >>= two (isD isC isU)) >>= fun d => ((((getS 2 r) >>= fun d => ((.ok (.cls 22)) >>= fun d => (.ok []) >>= fun ds => .ok (d :: ds)) >>= fun ds => .ok (d :: ds)) >>= two (isD isC isU)) >>= fun d => (.ok []) >>= fun ds => .ok (d :: ds)) >>= fun ds => .ok (d :: ds)) >>= fun ds => .ok (d :: ds)) >>= fun ds => .ok (d :: ds)) >>= lstD) r fun d => .nx (r.set 1 (.sh d))⟩] r).seq fun r => (lift ((getS 1 r) >>= fun x => (((.ok (.bl true)) >>= fun d => ((.ok (.bl true)) >>= fun d => ((.ok (.bl false)) >>= fun d => ((.ok (.bl false)) >>= fun d => (.ok []) >>= fun ds => .ok (d :: ds)) >>= fun ds => .ok (d :: ds)) >>= fun ds => .ok (d :: ds)) >>= fun ds => .ok (d :: ds)) >>= lstD) >>= fun y => eqD x y) r fun d => .rt d))
noncomputable def d_q_refused : List D → Res D := runD 1 N_q_refused.length e_q_refused
noncomputable def law_s1_1 : Env → Oc := fun r => lift (((getS 0 r) >>= fun d => (((.ok (.int 4)) >>= fun x => (getS 1 r) >>= fun y => mulD x y) >>= fun d => (.ok []) >>= fun ds => .ok (d :: ds)) >>= fun ds => .ok (d :: ds)) >>= d_q_cell) r fun d => .nx (r.set 2 (.sh d))
noncomputable def law_c1 (r : Env) (ds : List D) : Res (List D) := lcD (nameG 5)
  (fun r => .ok true)
  (fun r => ((((getS 0 r) >>= fun d => (((((.ok (.int 4)) >>= fun x => (getS 1 r) >>= fun y => mulD x y) >>= fun x => (.ok (.int 1)) >>= fun y => addD x y) >>= fun x => (getS 5 r) >>= fun y => addD x y) >>= fun d => (.ok []) >>= fun ds => .ok (d :: ds)) >>= fun ds => .ok (d :: ds)) >>= d_q_cell) >>= fun d => (.ok []) >>= fun ds => .ok (d :: ds)) >>= d_q_number)
  (wipeR r [5]) ds
noncomputable def law_s1_2 : Env → Oc := fun r => shareAt 3 (lift (((((((.ok (.int 0)) >>= fun d => ((.ok (.int 1)) >>= fun d => ((.ok (.int 2)) >>= fun d => ((.ok (.int 2)) >>= fun d => ((.ok (.int 3)) >>= fun d => ((.ok (.int 3)) >>= fun d => ((.ok (.int 4)) >>= fun d => ((.ok (.int 7)) >>= fun d => ((.ok (.int 8)) >>= fun d => (.ok []) >>= fun ds => .ok (d :: ds)) >>= fun ds => .ok (d :: ds)) >>= fun ds => .ok (d :: ds)) >>= fun ds => .ok (d :: ds)) >>= fun ds => .ok (d :: ds)) >>= fun ds => .ok (d :: ds)) >>= fun ds => .ok (d :: ds)) >>= fun ds => .ok (d :: ds)) >>= fun ds => .ok (d :: ds)) >>= lstD) >>= fun x => ((getS 2 r) >>= fun x => (.ok (.int 9)) >>= fun y => modD x y) >>= fun y => ixD x y) >>= fun d => (.ok []) >>= fun ds => .ok (d :: ds)) >>= rng1) >>= fun ds => law_c1 r ds >>= lstD) r fun d => .nx (r.set 3 (.ow .flat d)))
noncomputable def law_s1_3_1 : Env → Oc := fun r => lift ((((getS 2 r) >>= fun x => (.ok (.int 36)) >>= fun y => divD x y) >>= fun d => (.ok []) >>= fun ds => .ok (d :: ds)) >>= d_q_odd) r fun d => .nx (r.set 3 (.sh d))
noncomputable def law_s1_3_0_1_1 : Env → Oc := fun r => lift (((getS 3 r) >>= fun d => (.ok []) >>= fun ds => .ok (d :: ds)) >>= one tupleD) r fun d => .nx (r.set 3 (.sh d))
noncomputable def law_s1_3_0_1 : Env → Oc := fun r => lift (((((getS 2 r) >>= fun x => (.ok (.int 9)) >>= fun y => divD x y) >>= fun x => (.ok (.int 4)) >>= fun y => modD x y) >>= fun x => (.ok (.int 2)) >>= fun y => eqD x y) >>= asB) r fun t => if t = true then (law_s1_3_0_1_1 r) else (.nx r)
noncomputable def law_s1_3 : Env → Oc := fun r => lift (((((getS 2 r) >>= fun x => (.ok (.int 9)) >>= fun y => divD x y) >>= fun x => (.ok (.int 4)) >>= fun y => modD x y) >>= fun x => (.ok (.int 1)) >>= fun y => eqD x y) >>= asB) r fun t => if t = true then (law_s1_3_1 r) else (law_s1_3_0_1 r)
noncomputable def law_s1_4 : Env → Oc := fun r => lift (getS 3 r) r fun d => .nx (r.set 4 (.sh d))
noncomputable def law_s1_5_1 : Env → Oc := fun r => lift (((getS 3 r) >>= fun d => (.ok []) >>= fun ds => .ok (d :: ds)) >>= one listD) r fun d => .nx (r.set 4 (.sh d))
noncomputable def law_s1_5 : Env → Oc := fun r => lift ((((getS 3 r) >>= fun d => ((.ok (.ty "list")) >>= fun d => (.ok []) >>= fun ds => .ok (d :: ds)) >>= fun ds => .ok (d :: ds)) >>= two (isD isC isU)) >>= asB) r fun t => if t = true then (law_s1_5_1 r) else (.nx r)
noncomputable def law_s1_6_1 : Env → Oc := fun r => lift ((((((((getS 3 r) >>= fun d => (.ok []) >>= fun ds => .ok (d :: ds)) >>= d_Rounds_init) >>= fldD (plOf [0] "rounds")) >>= fun d => ((((getS 3 r) >>= fun d => (.ok []) >>= fun ds => .ok (d :: ds)) >>= one tupleD) >>= fun d => (.ok []) >>= fun ds => .ok (d :: ds)) >>= fun ds => .ok (d :: ds)) >>= d_q_same) >>= asB) >>= fun t => .ok (!t)) r fun t => if t = true then (lift (.ok (.bl false)) r fun d => .rt d) else (.nx r)
noncomputable def law_s1_6_0_1 : Env → Oc := fun r => lift (((((getS 3 r) >>= fun d => (.ok []) >>= fun ds => .ok (d :: ds)) >>= d_q_refused) >>= asB) >>= fun t => .ok (!t)) r fun t => if t = true then (lift (.ok (.bl false)) r fun d => .rt d) else (.nx r)
noncomputable def law_s1_6 : Env → Oc := fun r => lift ((((getS 3 r) >>= fun d => (.ok []) >>= fun ds => .ok (d :: ds)) >>= d_q_due) >>= asB) r fun t => if t = true then (law_s1_6_1 r) else (law_s1_6_0_1 r)
noncomputable def law_s1_7 : Env → Oc := fun r => lift (((getS 3 r) >>= fun x => (getS 4 r) >>= fun y => neV x y) >>= asB) r fun t => if t = true then (lift (.ok (.bl false)) r fun d => .rt d) else (.nx r)
noncomputable def law_l2 : D → Env → Oc := fun d r => (into ((nameG 1) d r)).seq fun r => ((law_s1_1 r).seq fun r => ((law_s1_2 r).seq fun r => ((law_s1_3 r).seq fun r => ((law_s1_4 r).seq fun r => ((law_s1_5 r).seq fun r => ((law_s1_6 r).seq fun r => (law_s1_7 r)))))))
noncomputable def law_s1 : Env → Oc := fun r => lift (((.ok (.int 6)) >>= fun d => (.ok []) >>= fun ds => .ok (d :: ds)) >>= rng1) r fun ds => forD (law_l2) ds r
noncomputable def law_s2 : Env → Oc := fun r => lift (.ok (.bl true)) r fun d => .rt d
noncomputable def e_law : Env → Oc := fun r => (law_s1 r).seq fun r => (law_s2 r)
noncomputable def d_law : List D → Res D := runD 1 N_law.length e_law
structure Txt (P : Program) (w : World) (K : PySem.W.Frag) (mg : Str → Option Value) (base : Heap) : Prop where
  zz : True
  n_range : mg "range" = none
  n_len : mg "len" = none
  n_sum : mg "sum" = none
  n_tuple : mg "tuple" = none
  n_isinstance : mg "isinstance" = none
  n_list : mg "list" = none
  n_int : mg "int" = none
  n_bool : mg "bool" = none
  n_all : mg "all" = none
  c_Rounds : mg (cname 0) = some (.ref ((⟨P, w, K, mg⟩ : GC).ca 0))
  g_MOST_ROUNDS : ∃ t, mg "MOST_ROUNDS" = some (.int 7 t)
  g_MOST_ELEMENTS : ∃ t, mg "MOST_ELEMENTS" = some (.int 144 t)
  c_NoRounds : mg (cname 11) = some (.ref ((⟨P, w, K, mg⟩ : GC).ca 11))
  e_NoRounds : ExM0 K mg ((⟨P, w, K, mg⟩ : GC).ca 11) 11
  f_rounds : FldM K (⟨P, w, K, mg⟩ : GC).ca "rounds" (plOf [0] "rounds")
  cl_Rounds_rounds : ClM K (⟨P, w, K, mg⟩ : GC).ca "rounds" 0
  c_CarryError : mg (cname 10) = some (.ref ((⟨P, w, K, mg⟩ : GC).ca 10))
  n_ValueError : mg "ValueError" = none
  c_NoElement : mg (cname 12) = some (.ref ((⟨P, w, K, mg⟩ : GC).ca 12))
  c_NoText : mg (cname 22) = some (.ref ((⟨P, w, K, mg⟩ : GC).ca 22))
  isM : IsM K (⟨P, w, K, mg⟩ : GC).ca isC isU
  ctM : CtM K (⟨P, w, K, mg⟩ : GC).ca ctC ctU
section
variable {P : Program} {w : World} {K : PySem.W.Frag} {mg : Str → Option Value} {base : Heap}
theorem b_q_cell (T : Txt P w K mg base) {f : Addr} (cdv : Value) (A : Around) (outer : List PySem.Env) (s : Shared) (H : Hp) (E : XK) (hr : Room 0 (A.deeper (envOfC "_law_cell" (defScope s_q_cell) s.heap.objs.size f cdv))) :
    RSs (cxOf (L2N.CX P w) P w K mg base N_q_cell "_law_cell" (defScope s_q_cell) f cdv A outer s H E) (WD E) .S (defBody s_q_cell) e_q_cell :=
  rss_cons (rs_set 2 sc_q_cell.nd (re_int))
    (rss_cons (rs_if (rt_cp (c_gt) (re_rd (re_blt (b_len T.n_len) (rar_cons (re_rd (re_var 0)) (rar_nil)))) (re_rd (re_int)))
    (rss_one (rs_set 2 sc_q_cell.nd (re_ix hr (re_rd (re_var 0)) (re_rd (re_mod (re_rd (re_var 1)) (re_rd (re_blt (b_len T.n_len) (rar_cons (re_rd (re_var 0)) (rar_nil)))))))))
    (rss_nil))
    (rss_cons (rs_if (rt_cp (c_eq hr) (re_rd (re_mod (re_rd (re_blt (b_sum rfl T.n_sum) (rar_cons (re_rd (re_var 0)) (rar_nil)))) (re_rd (re_int)))) (re_rd (re_int)))
    (rss_one (rs_ret (re_var 2)))
    (rss_nil))
    (rss_cons (rs_set 3 sc_q_cell.nd (re_mod (re_rd (re_mul (re_rd (re_add (re_rd (re_add (re_rd (re_mod (re_rd (re_var 2)) (re_rd (re_int)))) (re_rd (re_mul (re_rd (re_int)) (re_rd (re_var 1)))))) (re_rd (re_int)))) (re_rd (re_int)))) (re_rd (re_int))))
    (rss_one (rs_ret (re_add (re_rd (re_mul (re_rd (re_mod (re_rd (re_add (re_rd (re_mul (re_rd (re_var 3)) (re_rd (re_int)))) (re_rd (re_mul (re_rd (re_int)) (re_rd (re_var 1)))))) (re_rd (re_int)))) (re_rd (re_int)))) (re_rd (re_mod (re_rd (re_mul (re_rd (re_var 3)) (re_rd (re_int)))) (re_rd (re_int))))))))))
theorem b_q_number (T : Txt P w K mg base) {f : Addr} (cdv : Value) (A : Around) (outer : List PySem.Env) (s : Shared) (H : Hp) (E : XK) (hr : Room 0 (A.deeper (envOfC "_law_number" (defScope s_q_number) s.heap.objs.size f cdv))) :
    RSs (cxOf (L2N.CX P w) P w K mg base N_q_number "_law_number" (defScope s_q_number) f cdv A outer s H E) (WD E) .S (defBody s_q_number) e_q_number :=
  rss_cons (rs_if (rt_cp (c_gt) (re_rd (re_mod (re_rd (re_var 0)) (re_rd (re_int)))) (re_rd (re_int)))
    (rss_one (rs_ret (re_add (re_rd (re_int)) (re_rd (re_mod (re_rd (re_div (re_rd (re_var 0)) (re_rd (re_int)))) (re_rd (re_ix hr (re_rd (re_lst (ra_cons (re_int) (ra_cons (re_int) (ra_cons (re_int) (ra_cons (re_int) (ra_nil))))))) (re_rd (re_mod (re_rd (re_div (re_rd (re_var 0)) (re_rd (re_int)))) (re_rd (re_int)))))))))))
    (rss_nil))
    (rss_one (rs_ret (re_ix hr (re_rd (re_lst (ra_cons (re_int) (ra_cons (re_int) (ra_cons (re_neg (re_rd (re_int))) (ra_cons (re_int) (ra_cons (re_int) (ra_cons (re_add (re_rd (re_int)) (re_rd (re_mod (re_rd (re_div (re_rd (re_var 0)) (re_rd (re_int)))) (re_rd (re_int))))) (ra_cons (re_pow (re_rd (re_int)) (re_rd (re_int))) (ra_cons (re_sub (re_rd (re_neg (re_rd (re_int)))) (re_rd (re_mod (re_rd (re_div (re_rd (re_var 0)) (re_rd (re_int)))) (re_rd (re_pow (re_rd (re_int)) (re_rd (re_int))))))) (ra_nil))))))))))) (re_rd (re_mod (re_rd (re_div (re_rd (re_var 0)) (re_rd (re_int)))) (re_rd (re_int)))))))
theorem b_q_odd (T : Txt P w K mg base) {f : Addr} (cdv : Value) (A : Around) (outer : List PySem.Env) (s : Shared) (H : Hp) (E : XK) (hr : Room 0 (A.deeper (envOfC "_law_odd" (defScope s_q_odd) s.heap.objs.size f cdv))) :
    RSs (cxOf (L2N.CX P w) P w K mg base N_q_odd "_law_odd" (defScope s_q_odd) f cdv A outer s H E) (WD E) .S (defBody s_q_odd) e_q_odd :=
  rss_cons (rs_set 1 sc_q_odd.nd (re_share (re_lst (ra_cons (re_non) (ra_cons (re_bl) (ra_cons (re_int) (ra_cons (re_str) (ra_cons (re_str) (ra_cons (re_share (re_dic0)) (ra_cons (re_tup (ra_nil)) (ra_cons (re_share (re_lst (ra_nil))) (ra_cons (re_share (re_lst (ra_cons (re_bl) (ra_nil)))) (ra_cons (re_share (re_lst (ra_cons (re_int) (ra_cons (re_bl) (ra_nil))))) (ra_cons (re_share (re_lst (ra_cons (re_str) (ra_nil)))) (ra_cons (re_share (re_lst (ra_cons (re_share (re_lst (ra_cons (re_int) (ra_nil)))) (ra_nil)))) (ra_cons (re_share (re_lst (ra_cons (re_non) (ra_nil)))) (ra_cons (re_tup (ra_cons (re_int) (ra_cons (re_tup (ra_cons (re_int) (ra_nil))) (ra_nil)))) (ra_cons (re_share (re_disp (dps_cons re_int rfl (re_int) (dps_nil)))) (ra_cons (re_share (re_lst (ra_cons (re_int) (ra_cons (re_share (re_lst (ra_nil))) (ra_nil))))) (ra_nil))))))))))))))))))))
    (rss_cons (rs_set 1 sc_q_odd.nd (re_add (re_rd (re_var 1)) (re_rd (re_lst (ra_cons (re_str) (ra_cons (re_share (re_lst (ra_cons (re_int) (ra_cons (re_int) (ra_cons (re_str) (ra_nil)))))) (ra_cons (re_tup (ra_cons (re_int) (ra_nil))) (ra_cons (re_share (re_lst (ra_cons (re_int) (ra_nil)))) (ra_cons (re_share (re_lst (ra_cons (re_int) (ra_cons (re_int) (ra_nil))))) (ra_cons (re_share (re_lst (ra_cons (re_int) (ra_cons (re_int) (ra_nil))))) (ra_cons (re_tup (ra_cons (re_int) (ra_cons (re_int) (ra_cons (re_int) (ra_cons (re_int) (ra_cons (re_int) (ra_cons (re_int) (ra_cons (re_int) (ra_nil))))))))) (ra_cons (re_mul (re_rd (re_lst (ra_cons (re_int) (ra_nil)))) (re_rd (re_int))) (ra_cons (re_mul (re_rd (re_lst (ra_cons (re_int) (ra_nil)))) (re_rd (re_int))) (ra_nil))))))))))))))
    (rss_one (rs_ret (re_ix hr (re_rd (re_var 1)) (re_rd (re_mod (re_rd (re_var 0)) (re_rd (re_blt (b_len T.n_len) (rar_cons (re_rd (re_var 1)) (rar_nil))))))))))
theorem b_q_whole (T : Txt P w K mg base) {f : Addr} (cdv : Value) (A : Around) (outer : List PySem.Env) (s : Shared) (H : Hp) (E : XK) (hr : Room 0 (A.deeper (envOfC "_law_whole" (defScope s_q_whole) s.heap.objs.size f cdv))) :
    RSs (cxOf (L2N.CX P w) P w K mg base N_q_whole "_law_whole" (defScope s_q_whole) f cdv A outer s H E) (WD E) .S (defBody s_q_whole) e_q_whole :=
  rss_one (rs_ret (re_and (re_blt (b_is T.isM T.n_isinstance) (rar_cons (re_rd (re_var 0)) (rar_cons (re_rd (re_ty T.n_int boot_ty_int)) (rar_nil)))) (re_one (re_not (re_blt (b_is T.isM T.n_isinstance) (rar_cons (re_rd (re_var 0)) (rar_cons (re_rd (re_ty T.n_bool boot_ty_bool)) (rar_nil))))))))
theorem b_q_due (T : Txt P w K mg base) (M_q_whole : FnM P w K mg base 1 "_law_whole" .S d_q_whole) {f : Addr} (cdv : Value) (A : Around) (outer : List PySem.Env) (s : Shared) (H : Hp) (E : XK) (hr : Room 1 (A.deeper (envOfC "_law_due" (defScope s_q_due) s.heap.objs.size f cdv))) :
    RSs (cxOf (L2N.CX P w) P w K mg base N_q_due "_law_due" (defScope s_q_due) f cdv A outer s H E) (WD E) .S (defBody s_q_due) e_q_due :=
  rss_cons (rs_if (rt_pw (rw_and (rt_not (rt_val (re_blt (b_is T.isM T.n_isinstance) (rar_cons (re_rd (re_var 0)) (rar_cons (re_rd (re_ty T.n_list boot_ty_list)) (rar_nil)))))) (rw_and1 (rt_not (rt_val (re_blt (b_is T.isM T.n_isinstance) (rar_cons (re_rd (re_var 0)) (rar_cons (re_rd (re_ty T.n_tuple boot_ty_tuple)) (rar_nil)))))))))
    (rss_one (rs_ret (re_bl)))
    (rss_nil))
    (rss_cons (rs_set 1 sc_q_due.nd (re_int))
    (rss_cons (rs_for (passes_of rfl) rfl (by exact (re_iter (re_var 0))) (by exact (gN 2 sc_q_due.nd))
    (by exact (rss_cons (rs_if (rt_pw (rw_or (rt_not (rt_val (re_call M_q_whole (hr.mono (by decide)) (takes_of rfl rfl rfl rfl) (ra_cons (re_var 2) (ra_nil))))) (rw_or1 (rt_cp (c_lt) (re_rd (re_var 2)) (re_rd (re_int))))))
    (rss_one (rs_ret (re_bl)))
    (rss_nil))
    (rss_one (rs_set 1 sc_q_due.nd (re_mul (re_rd (re_var 1)) (re_rd (re_var 2))))))))
    (rss_one (rs_ret (re_and (re_cp (c_lt) (re_rd (re_blt (b_len T.n_len) (rar_cons (re_rd (re_var 0)) (rar_nil)))) (re_rd (re_int))) (re_one (re_cp (c_le) (re_rd (re_var 1)) (re_rd (re_int)))))))))
theorem b_q_same (T : Txt P w K mg base) (M_q_whole : FnM P w K mg base 1 "_law_whole" .S d_q_whole) {f : Addr} (cdv : Value) (A : Around) (outer : List PySem.Env) (s : Shared) (H : Hp) (E : XK) (hr : Room 1 (A.deeper (envOfC "_law_same" (defScope s_q_same) s.heap.objs.size f cdv))) :
    RSs (cxOf (L2N.CX P w) P w K mg base N_q_same "_law_same" (defScope s_q_same) f cdv A outer s H E) (WD E) .S (defBody s_q_same) e_q_same :=
  rss_cons (rs_if (rt_pw (rw_or (rt_not (rt_val (re_blt (b_is T.isM T.n_isinstance) (rar_cons (re_rd (re_var 0)) (rar_cons (re_rd (re_ty T.n_tuple boot_ty_tuple)) (rar_nil)))))) (rw_or1 (rt_cp (c_ne hr) (re_rd (re_blt (b_len T.n_len) (rar_cons (re_rd (re_var 0)) (rar_nil)))) (re_rd (re_blt (b_len T.n_len) (rar_cons (re_rd (re_var 1)) (rar_nil))))))))
    (rss_one (rs_ret (re_bl)))
    (rss_nil))
    (rss_one (rs_ret (re_and (re_blt (b_allT rfl T.n_all) (rar_cons (re_rd (re_lc [("_law_number_here", 2)] rfl sc_q_same.nd (re_iter (re_var 0)) (blkOk_by (N := N_q_same) (sc := defScope s_q_same) (by decide +kernel)) (fun _ _ _ _ _ _ => by exact (gN 2 sc_q_same.nd)) (fun _ _ _ _ _ => by exact (rts_nil)) (fun _ _ _ _ _ => by exact (re_call M_q_whole (hr.mono (by decide)) (takes0) (ra_cons (re_var 2) (ra_nil)))))) (rar_nil))) (re_one (re_cp (c_eq hr) (re_rd (re_var 0)) (re_rd (re_var 1)))))))
theorem b_is_whole (T : Txt P w K mg base) {f : Addr} (cdv : Value) (A : Around) (outer : List PySem.Env) (s : Shared) (H : Hp) (E : XK) (hr : Room 0 (A.deeper (envOfC "is_whole" (defScope s_is_whole) s.heap.objs.size f cdv))) :
    RSs (cxOf (L2N.CX P w) P w K mg base N_is_whole "is_whole" (defScope s_is_whole) f cdv A outer s H E) (WD E) .S (defBody s_is_whole) e_is_whole :=
  rss_one (rs_ret (re_and (re_blt (b_is T.isM T.n_isinstance) (rar_cons (re_rd (re_var 0)) (rar_cons (re_rd (re_ty T.n_int boot_ty_int)) (rar_nil)))) (re_one (re_not (re_blt (b_is T.isM T.n_isinstance) (rar_cons (re_rd (re_var 0)) (rar_cons (re_rd (re_ty T.n_bool boot_ty_bool)) (rar_nil))))))))
theorem b_are_rounds (T : Txt P w K mg base) (M_is_whole : FnM P w K mg base 1 "is_whole" .S d_is_whole) {f : Addr} (cdv : Value) (A : Around) (outer : List PySem.Env) (s : Shared) (H : Hp) (E : XK) (hr : Room 1 (A.deeper (envOfC "are_rounds" (defScope s_are_rounds) s.heap.objs.size f cdv))) :
    RSs (cxOf (L2N.CX P w) P w K mg base N_are_rounds "are_rounds" (defScope s_are_rounds) f cdv A outer s H E) (WD E) .S (defBody s_are_rounds) e_are_rounds :=
  rss_cons (rs_if (rt_pw (rw_or (rt_not (rt_val (re_blt (b_is T.isM T.n_isinstance) (rar_cons (re_rd (re_var 0)) (rar_cons (re_rd (re_tup (ra_cons (re_ty T.n_list boot_ty_list) (ra_cons (re_ty T.n_tuple boot_ty_tuple) (ra_nil))))) (rar_nil)))))) (rw_or1 (rt_cp (c_gt) (re_rd (re_blt (b_len T.n_len) (rar_cons (re_rd (re_var 0)) (rar_nil)))) (re_rd (re_gI T.g_MOST_ROUNDS))))))
    (rss_one (rs_ret (re_bl)))
    (rss_nil))
    (rss_cons (rs_set 1 sc_are_rounds.nd (re_int))
    (rss_cons (rs_for (passes_of rfl) rfl (by exact (re_iter (re_var 0))) (by exact (gN 2 sc_are_rounds.nd))
    (by exact (rss_cons (rs_if (rt_pw (rw_or (rt_not (rt_val (re_call M_is_whole (hr.mono (by decide)) (takes_of rfl rfl rfl rfl) (ra_cons (re_var 2) (ra_nil))))) (rw_or (rt_cp (c_lt) (re_rd (re_var 2)) (re_rd (re_int))) (rw_or1 (rt_cp (c_gt) (re_rd (re_var 2)) (re_rd (re_gI T.g_MOST_ELEMENTS)))))))
    (rss_one (rs_ret (re_bl)))
    (rss_nil))
    (rss_one (rs_set 1 sc_are_rounds.nd (re_mul (re_rd (re_var 1)) (re_rd (re_var 2))))))))
    (rss_one (rs_ret (re_cp (c_le) (re_rd (re_var 1)) (re_rd (re_gI T.g_MOST_ELEMENTS)))))))
theorem b_Rounds_init (T : Txt P w K mg base) (M_are_rounds : FnM P w K mg base 2 "are_rounds" .S d_are_rounds) {f : Addr} (cdv : Value) (A : Around) (outer : List PySem.Env) (s : Shared) (H : Hp) (E : XK) (x : Addr) (hr : Room 2 (A.deeper (envOfC "Rounds.__init__" (defScope s_Rounds_init) s.heap.objs.size f cdv))) :
    RSs (cxOf (L2N.CX P w) P w K mg base N_Rounds_init "Rounds.__init__" (defScope s_Rounds_init) f cdv A outer s H E) (WI x E) .S (defBody s_Rounds_init) e_Rounds_init :=
  rss_cons (rs_if (rt_not (rt_val (re_call M_are_rounds (hr.mono (by decide)) (takes_of rfl rfl rfl rfl) (ra_cons (re_var 1) (ra_nil)))))
    (rss_one (rs_raise0 T.e_NoRounds rfl (takes_of rfl rfl rfl rfl)))
    (rss_nil))
    (rss_one (rs_fldS 0 0 T.cl_Rounds_rounds (re_blt (b_tuple T.n_tuple) (rar_cons (re_rd (re_var 1)) (rar_nil)))))
theorem b_q_refused (T : Txt P w K mg base) (MK_Rounds : MkM P w K mg base 3 0 d_Rounds_init) {f : Addr} (cdv : Value) (A : Around) (outer : List PySem.Env) (s : Shared) (H : Hp) (E : XK) (hr : Room 4 (A.deeper (envOfC "_law_refused" (defScope s_q_refused) s.heap.objs.size f cdv))) :
    RSs (cxOf (L2N.CX P w) P w K mg base N_q_refused "_law_refused" (defScope s_q_refused) f cdv A outer s H E) (WD E) .S (defBody s_q_refused) e_q_refused :=
  rss_cons (rs_set 1 sc_q_refused.nd (re_share (re_lst (ra_nil))))
    (rss_cons (rs_try T.ctM sc_q_refused.nd (takes_of rfl rfl rfl rfl) (fun _ _ _ tk1 po1 => by exact (rss_one (rs_expr (re_make MK_Rounds (hr.mono (by decide)) (tk1) (ra_cons (re_var 0) (ra_nil)))))) (by exact (ClsD.as (i := 2) (names_own (u := 10) T.c_CarryError) rfl rfl rfl (by first | exact fun _ _ h => h | exact jset (by decide)) (fun _ _ => by exact (rss_one (rs_set 1 sc_q_refused.nd (re_share (re_lst (ra_cons (re_blt (b_is T.isM T.n_isinstance) (rar_cons (re_rd (re_var 2)) (rar_cons (re_rd (re_cls (c := 11) T.c_NoRounds)) (rar_nil)))) (ra_cons (re_blt (b_is T.isM T.n_isinstance) (rar_cons (re_rd (re_var 2)) (rar_cons (re_rd (re_ty T.n_ValueError boot_ty_ValueError)) (rar_nil)))) (ra_cons (re_blt (b_is T.isM T.n_isinstance) (rar_cons (re_rd (re_var 2)) (rar_cons (re_rd (re_cls (c := 12) T.c_NoElement)) (rar_nil)))) (ra_cons (re_blt (b_is T.isM T.n_isinstance) (rar_cons (re_rd (re_var 2)) (rar_cons (re_rd (re_cls (c := 22) T.c_NoText)) (rar_nil)))) (ra_nil)))))))))) (by exact (ClsD.nil)))))
    (rss_one (rs_ret (re_cp (c_eq hr) (re_rd (re_var 1)) (re_rd (re_lst (ra_cons (re_bl) (ra_cons (re_bl) (ra_cons (re_bl) (ra_cons (re_bl) (ra_nil)))))))))))
theorem b_law (T : Txt P w K mg base) (M_q_cell : FnM P w K mg base 1 "_law_cell" .S d_q_cell) (M_q_number : FnM P w K mg base 1 "_law_number" .S d_q_number) (M_q_odd : FnM P w K mg base 1 "_law_odd" .S d_q_odd) (M_q_due : FnM P w K mg base 2 "_law_due" .S d_q_due) (M_q_same : FnM P w K mg base 2 "_law_same" .S d_q_same) (MK_Rounds : MkM P w K mg base 3 0 d_Rounds_init) (M_q_refused : FnM P w K mg base 5 "_law_refused" .S d_q_refused) {f : Addr} (cdv : Value) (A : Around) (outer : List PySem.Env) (s : Shared) (H : Hp) (E : XK) (hr : Room 5 (A.deeper (envOfC "law" (defScope s_law) s.heap.objs.size f cdv))) :
    RSs (cxOf (L2N.CX P w) P w K mg base N_law "law" (defScope s_law) f cdv A outer s H E) (WD E) .S (defBody s_law) e_law :=
  rss_cons (rs_for (passes_of rfl) rfl (by exact (ri_range1 (b := true) T.n_range (rar_cons (re_rd (re_int)) (rar_nil)))) (by exact (gN 1 sc_law.nd))
    (by exact (rss_cons (rs_set 2 sc_law.nd (re_call M_q_cell (hr.mono (by decide)) (takes_of rfl rfl rfl rfl) (ra_cons (re_var 0) (ra_cons (re_mul (re_rd (re_int)) (re_rd (re_var 1))) (ra_nil)))))
    (rss_cons (rs_shareLc 3 (rs_setLc 3 [("_law_j", 5)] rfl sc_law.nd (ri_range1 (b := true) T.n_range (rar_cons (re_rd (re_ix hr (re_rd (re_lst (ra_cons (re_int) (ra_cons (re_int) (ra_cons (re_int) (ra_cons (re_int) (ra_cons (re_int) (ra_cons (re_int) (ra_cons (re_int) (ra_cons (re_int) (ra_cons (re_int) (ra_nil)))))))))))) (re_rd (re_mod (re_rd (re_var 2)) (re_rd (re_int)))))) (rar_nil))) (blkOk_by (N := N_law) (sc := defScope s_law) (by decide +kernel)) (fun _ _ _ _ _ _ => by exact (gN 5 sc_law.nd)) (fun _ _ _ _ _ => by exact (rts_nil)) (fun _ _ _ _ _ => by exact (re_call M_q_number (hr.mono (by decide)) (takes0) (ra_cons (re_call M_q_cell (hr.mono (by decide)) (takes0) (ra_cons (re_var 0) (ra_cons (re_add (re_rd (re_add (re_rd (re_mul (re_rd (re_int)) (re_rd (re_var 1)))) (re_rd (re_int)))) (re_rd (re_var 5))) (ra_nil)))) (ra_nil))))))
    (rss_cons (rs_if (rt_cp (c_eq hr) (re_rd (re_mod (re_rd (re_div (re_rd (re_var 2)) (re_rd (re_int)))) (re_rd (re_int)))) (re_rd (re_int)))
    (rss_one (rs_set 3 sc_law.nd (re_call M_q_odd (hr.mono (by decide)) (takes_of rfl rfl rfl rfl) (ra_cons (re_div (re_rd (re_var 2)) (re_rd (re_int))) (ra_nil)))))
    (rss_one (rs_if (rt_cp (c_eq hr) (re_rd (re_mod (re_rd (re_div (re_rd (re_var 2)) (re_rd (re_int)))) (re_rd (re_int)))) (re_rd (re_int)))
    (rss_one (rs_set 3 sc_law.nd (re_blt (b_tuple T.n_tuple) (rar_cons (re_rd (re_var 3)) (rar_nil)))))
    (rss_nil))))
    (rss_cons (rs_set 4 sc_law.nd (re_var 3))
    (rss_cons (rs_if (rt_val (re_blt (b_is T.isM T.n_isinstance) (rar_cons (re_rd (re_var 3)) (rar_cons (re_rd (re_ty T.n_list boot_ty_list)) (rar_nil)))))
    (rss_one (rs_set 4 sc_law.nd (re_share (re_blt (b_list T.n_list) (rar_cons (re_rd (re_var 3)) (rar_nil))))))
    (rss_nil))
    (rss_cons (rs_if (rt_val (re_call M_q_due (hr.mono (by decide)) (takes_of rfl rfl rfl rfl) (ra_cons (re_var 3) (ra_nil))))
    (rss_one (rs_if (rt_not (rt_val (re_call M_q_same (hr.mono (by decide)) (takes_of rfl rfl rfl rfl) (ra_cons (re_fld T.f_rounds (re_make MK_Rounds (hr.mono (by decide)) (takes_of rfl rfl rfl rfl) (ra_cons (re_var 3) (ra_nil)))) (ra_cons (re_blt (b_tuple T.n_tuple) (rar_cons (re_rd (re_var 3)) (rar_nil))) (ra_nil))))))
    (rss_one (rs_ret (re_bl)))
    (rss_nil)))
    (rss_one (rs_if (rt_not (rt_val (re_call M_q_refused (hr.mono (by decide)) (takes_of rfl rfl rfl rfl) (ra_cons (re_var 3) (ra_nil)))))
    (rss_one (rs_ret (re_bl)))
    (rss_nil))))
    (rss_one (rs_if (rt_cp (c_neV hr) (re_rd (re_var 3)) (re_rd (re_var 4)))
    (rss_one (rs_ret (re_bl)))
    (rss_nil)))))))))))
    (rss_one (rs_ret (re_bl)))
end
end
theorem all_mk {P q : Program} {w : World} {K : PySem.W.Frag} {h : Heap} {mg : Str → Option Value} {fa C_CarryError C_NoRounds C_NoElement C_NoText C_Group C_Rounds f_q_cell f_q_number f_q_odd f_q_whole f_q_due f_q_same f_is_whole f_are_rounds f_Rounds_init f_q_refused f_law : Addr} (X : K.In h) (G : h.Ns mainGlobals mg) (hfa : mg "law" = some (.ref fa))
    {oc_q_cell kV_q_cell dc_q_cell pm_q_cell cd_q_cell ct_q_cell : Value} {od_q_cell an_q_cell : Option Addr} {sl_q_cell : Array (Option Value)}
    {oc_q_number kV_q_number dc_q_number pm_q_number cd_q_number ct_q_number : Value} {od_q_number an_q_number : Option Addr} {sl_q_number : Array (Option Value)}
    {oc_q_odd kV_q_odd dc_q_odd pm_q_odd cd_q_odd ct_q_odd : Value} {od_q_odd an_q_odd : Option Addr} {sl_q_odd : Array (Option Value)}
    {oc_q_whole kV_q_whole dc_q_whole pm_q_whole cd_q_whole ct_q_whole : Value} {od_q_whole an_q_whole : Option Addr} {sl_q_whole : Array (Option Value)}
    {oc_q_due kV_q_due dc_q_due pm_q_due cd_q_due ct_q_due : Value} {od_q_due an_q_due : Option Addr} {sl_q_due : Array (Option Value)}
    {oc_q_same kV_q_same dc_q_same pm_q_same cd_q_same ct_q_same : Value} {od_q_same an_q_same : Option Addr} {sl_q_same : Array (Option Value)}
    {oc_is_whole kV_is_whole dc_is_whole pm_is_whole cd_is_whole ct_is_whole : Value} {od_is_whole an_is_whole : Option Addr} {sl_is_whole : Array (Option Value)}
    {oc_are_rounds kV_are_rounds dc_are_rounds pm_are_rounds cd_are_rounds ct_are_rounds : Value} {od_are_rounds an_are_rounds : Option Addr} {sl_are_rounds : Array (Option Value)}
    {oc_Rounds_init kV_Rounds_init dc_Rounds_init pm_Rounds_init cd_Rounds_init ct_Rounds_init : Value} {od_Rounds_init an_Rounds_init : Option Addr} {sl_Rounds_init : Array (Option Value)}
    {oc_q_refused kV_q_refused dc_q_refused pm_q_refused cd_q_refused ct_q_refused : Value} {od_q_refused an_q_refused : Option Addr} {sl_q_refused : Array (Option Value)}
    {oc_law kV_law dc_law pm_law cd_law ct_law : Value} {od_law an_law : Option Addr} {sl_law : Array (Option Value)}
    {t_MOST_ROUNDS : Tok}
    {t_MOST_ELEMENTS : Tok}
    (aC_CarryError : PySem.W.nsIn K mainGlobals "CarryError" = some (some (.ref C_CarryError)))
    (aC_NoRounds : PySem.W.nsIn K mainGlobals "NoRounds" = some (some (.ref C_NoRounds)))
    (aC_NoElement : PySem.W.nsIn K mainGlobals "NoElement" = some (some (.ref C_NoElement)))
    (aC_NoText : PySem.W.nsIn K mainGlobals "NoText" = some (some (.ref C_NoText)))
    (aC_Group : PySem.W.nsIn K mainGlobals "Group" = some (some (.ref C_Group)))
    (aC_Rounds : PySem.W.nsIn K mainGlobals "Rounds" = some (some (.ref C_Rounds)))
    (a_q_cell : PySem.W.nsIn K mainGlobals "_law_cell" = some (some (.ref f_q_cell)))
    (l_q_cell : K.lookup f_q_cell = some ⟨oc_q_cell, od_q_cell, .func (PySem.W.fnOf "_law_cell" "_law_cell" (defArgs s_q_cell) (defBody s_q_cell) (defScope s_q_cell) .none kV_q_cell dc_q_cell pm_q_cell an_q_cell cd_q_cell ct_q_cell), sl_q_cell⟩)
    (c_q_cell : PySem.W.codeIn K cd_q_cell "_law_cell" = true) (k_q_cell : PySem.W.keepIn K (.ref f_q_cell) = true)
    (a_q_number : PySem.W.nsIn K mainGlobals "_law_number" = some (some (.ref f_q_number)))
    (l_q_number : K.lookup f_q_number = some ⟨oc_q_number, od_q_number, .func (PySem.W.fnOf "_law_number" "_law_number" (defArgs s_q_number) (defBody s_q_number) (defScope s_q_number) .none kV_q_number dc_q_number pm_q_number an_q_number cd_q_number ct_q_number), sl_q_number⟩)
    (c_q_number : PySem.W.codeIn K cd_q_number "_law_number" = true) (k_q_number : PySem.W.keepIn K (.ref f_q_number) = true)
    (a_q_odd : PySem.W.nsIn K mainGlobals "_law_odd" = some (some (.ref f_q_odd)))
    (l_q_odd : K.lookup f_q_odd = some ⟨oc_q_odd, od_q_odd, .func (PySem.W.fnOf "_law_odd" "_law_odd" (defArgs s_q_odd) (defBody s_q_odd) (defScope s_q_odd) .none kV_q_odd dc_q_odd pm_q_odd an_q_odd cd_q_odd ct_q_odd), sl_q_odd⟩)
    (c_q_odd : PySem.W.codeIn K cd_q_odd "_law_odd" = true) (k_q_odd : PySem.W.keepIn K (.ref f_q_odd) = true)
    (a_q_whole : PySem.W.nsIn K mainGlobals "_law_whole" = some (some (.ref f_q_whole)))
    (l_q_whole : K.lookup f_q_whole = some ⟨oc_q_whole, od_q_whole, .func (PySem.W.fnOf "_law_whole" "_law_whole" (defArgs s_q_whole) (defBody s_q_whole) (defScope s_q_whole) .none kV_q_whole dc_q_whole pm_q_whole an_q_whole cd_q_whole ct_q_whole), sl_q_whole⟩)
    (c_q_whole : PySem.W.codeIn K cd_q_whole "_law_whole" = true) (k_q_whole : PySem.W.keepIn K (.ref f_q_whole) = true)
    (a_q_due : PySem.W.nsIn K mainGlobals "_law_due" = some (some (.ref f_q_due)))
    (l_q_due : K.lookup f_q_due = some ⟨oc_q_due, od_q_due, .func (PySem.W.fnOf "_law_due" "_law_due" (defArgs s_q_due) (defBody s_q_due) (defScope s_q_due) .none kV_q_due dc_q_due pm_q_due an_q_due cd_q_due ct_q_due), sl_q_due⟩)
    (c_q_due : PySem.W.codeIn K cd_q_due "_law_due" = true) (k_q_due : PySem.W.keepIn K (.ref f_q_due) = true)
    (a_q_same : PySem.W.nsIn K mainGlobals "_law_same" = some (some (.ref f_q_same)))
    (l_q_same : K.lookup f_q_same = some ⟨oc_q_same, od_q_same, .func (PySem.W.fnOf "_law_same" "_law_same" (defArgs s_q_same) (defBody s_q_same) (defScope s_q_same) .none kV_q_same dc_q_same pm_q_same an_q_same cd_q_same ct_q_same), sl_q_same⟩)
    (c_q_same : PySem.W.codeIn K cd_q_same "_law_same" = true) (k_q_same : PySem.W.keepIn K (.ref f_q_same) = true)
    (a_is_whole : PySem.W.nsIn K mainGlobals "is_whole" = some (some (.ref f_is_whole)))
    (l_is_whole : K.lookup f_is_whole = some ⟨oc_is_whole, od_is_whole, .func (PySem.W.fnOf "is_whole" "is_whole" (defArgs s_is_whole) (defBody s_is_whole) (defScope s_is_whole) .none kV_is_whole dc_is_whole pm_is_whole an_is_whole cd_is_whole ct_is_whole), sl_is_whole⟩)
    (c_is_whole : PySem.W.codeIn K cd_is_whole "is_whole" = true) (k_is_whole : PySem.W.keepIn K (.ref f_is_whole) = true)
    (a_are_rounds : PySem.W.nsIn K mainGlobals "are_rounds" = some (some (.ref f_are_rounds)))
    (l_are_rounds : K.lookup f_are_rounds = some ⟨oc_are_rounds, od_are_rounds, .func (PySem.W.fnOf "are_rounds" "are_rounds" (defArgs s_are_rounds) (defBody s_are_rounds) (defScope s_are_rounds) .none kV_are_rounds dc_are_rounds pm_are_rounds an_are_rounds cd_are_rounds ct_are_rounds), sl_are_rounds⟩)
    (c_are_rounds : PySem.W.codeIn K cd_are_rounds "are_rounds" = true) (k_are_rounds : PySem.W.keepIn K (.ref f_are_rounds) = true)
    (a_Rounds_init : PySem.W.findIn K (.ref C_Rounds) "__init__" = some (some (.ref f_Rounds_init)))
    (l_Rounds_init : K.lookup f_Rounds_init = some ⟨oc_Rounds_init, od_Rounds_init, .func (PySem.W.fnOf "__init__" "Rounds.__init__" (defArgs s_Rounds_init) (defBody s_Rounds_init) (defScope s_Rounds_init) .none kV_Rounds_init dc_Rounds_init pm_Rounds_init an_Rounds_init cd_Rounds_init ct_Rounds_init), sl_Rounds_init⟩)
    (c_Rounds_init : PySem.W.codeIn K cd_Rounds_init "Rounds.__init__" = true) (k_Rounds_init : PySem.W.keepIn K (.ref f_Rounds_init) = true)
    (i_Rounds_init : PySem.W.isFn K (.ref f_Rounds_init) = true)
    (a_q_refused : PySem.W.nsIn K mainGlobals "_law_refused" = some (some (.ref f_q_refused)))
    (l_q_refused : K.lookup f_q_refused = some ⟨oc_q_refused, od_q_refused, .func (PySem.W.fnOf "_law_refused" "_law_refused" (defArgs s_q_refused) (defBody s_q_refused) (defScope s_q_refused) .none kV_q_refused dc_q_refused pm_q_refused an_q_refused cd_q_refused ct_q_refused), sl_q_refused⟩)
    (c_q_refused : PySem.W.codeIn K cd_q_refused "_law_refused" = true) (k_q_refused : PySem.W.keepIn K (.ref f_q_refused) = true)
    (a_law : PySem.W.nsIn K mainGlobals "law" = some (some (.ref f_law)))
    (l_law : K.lookup f_law = some ⟨oc_law, od_law, .func (PySem.W.fnOf "law" "law" (defArgs s_law) (defBody s_law) (defScope s_law) .none kV_law dc_law pm_law an_law cd_law ct_law), sl_law⟩)
    (c_law : PySem.W.codeIn K cd_law "law" = true) (k_law : PySem.W.keepIn K (.ref f_law) = true)
    (z_range : PySem.W.nsIn K mainGlobals "range" = some none)
    (z_len : PySem.W.nsIn K mainGlobals "len" = some none)
    (z_sum : PySem.W.nsIn K mainGlobals "sum" = some none)
    (z_tuple : PySem.W.nsIn K mainGlobals "tuple" = some none)
    (z_isinstance : PySem.W.nsIn K mainGlobals "isinstance" = some none)
    (z_list : PySem.W.nsIn K mainGlobals "list" = some none)
    (z_int : PySem.W.nsIn K mainGlobals "int" = some none)
    (z_bool : PySem.W.nsIn K mainGlobals "bool" = some none)
    (z_all : PySem.W.nsIn K mainGlobals "all" = some none)
    (z_MOST_ROUNDS : PySem.W.nsIn K mainGlobals "MOST_ROUNDS" = some (some (.int (7) t_MOST_ROUNDS)))
    (z_MOST_ELEMENTS : PySem.W.nsIn K mainGlobals "MOST_ELEMENTS" = some (some (.int (144) t_MOST_ELEMENTS)))
    (ob_NoRounds : e0B K C_NoRounds = true)
    (fl_rounds : flB K "rounds" [(0, C_Rounds)] = true)
    (z_ValueError : PySem.W.nsIn K mainGlobals "ValueError" = some none)
    (hIs : isTab K [(10, C_CarryError), (11, C_NoRounds), (12, C_NoElement), (22, C_NoText), (0, C_Rounds)] [(11, C_NoRounds), (12, C_NoElement), (22, C_NoText)] = true)
    (hCt : ctB K [(10, C_CarryError), (11, C_NoRounds), (12, C_NoElement), (22, C_NoText)] [(10, C_CarryError)] = true)
    (mk_Rounds : PySem.W.makesIn K C_Rounds = true) (kc_Rounds : PySem.W.keepIn K (.ref C_Rounds) = true)
    : LawT P w K q 6 "_law_script" mg fa d_law := by
  have e := hfa.symm.trans (PySem.W.mg_of X G a_law)
  cases e
  letI tn : Tn := ⟨fun P => "", []⟩
  have m_CarryError : mg (cname 10) = some (.ref C_CarryError) := PySem.W.mg_of X G aC_CarryError
  have ca_CarryError : (⟨P, w, K, mg⟩ : GC).ca 10 = C_CarryError := ca_of (G := ⟨P, w, K, mg⟩) m_CarryError
  have m_NoRounds : mg (cname 11) = some (.ref C_NoRounds) := PySem.W.mg_of X G aC_NoRounds
  have ca_NoRounds : (⟨P, w, K, mg⟩ : GC).ca 11 = C_NoRounds := ca_of (G := ⟨P, w, K, mg⟩) m_NoRounds
  have m_NoElement : mg (cname 12) = some (.ref C_NoElement) := PySem.W.mg_of X G aC_NoElement
  have ca_NoElement : (⟨P, w, K, mg⟩ : GC).ca 12 = C_NoElement := ca_of (G := ⟨P, w, K, mg⟩) m_NoElement
  have m_NoText : mg (cname 22) = some (.ref C_NoText) := PySem.W.mg_of X G aC_NoText
  have ca_NoText : (⟨P, w, K, mg⟩ : GC).ca 22 = C_NoText := ca_of (G := ⟨P, w, K, mg⟩) m_NoText
  have m_Group : mg (cname 5) = some (.ref C_Group) := PySem.W.mg_of X G aC_Group
  have ca_Group : (⟨P, w, K, mg⟩ : GC).ca 5 = C_Group := ca_of (G := ⟨P, w, K, mg⟩) m_Group
  have m_Rounds : mg (cname 0) = some (.ref C_Rounds) := PySem.W.mg_of X G aC_Rounds
  have ca_Rounds : (⟨P, w, K, mg⟩ : GC).ca 0 = C_Rounds := ca_of (G := ⟨P, w, K, mg⟩) m_Rounds
  have F_q_cell := fun_mk (st := s_q_cell) l_q_cell c_q_cell k_q_cell
  have B_q_cell := F_q_cell.binds (ps := ["_law_script", "_law_k"]) fun _ _ _ _ _ _ us hl => match us, hl with | [_, _], _ => rfl
  have F_q_number := fun_mk (st := s_q_number) l_q_number c_q_number k_q_number
  have B_q_number := F_q_number.binds (ps := ["_law_cell_here"]) fun _ _ _ _ _ _ us hl => match us, hl with | [_], _ => rfl
  have F_q_odd := fun_mk (st := s_q_odd) l_q_odd c_q_odd k_q_odd
  have B_q_odd := F_q_odd.binds (ps := ["_law_cell_here"]) fun _ _ _ _ _ _ us hl => match us, hl with | [_], _ => rfl
  have F_q_whole := fun_mk (st := s_q_whole) l_q_whole c_q_whole k_q_whole
  have B_q_whole := F_q_whole.binds (ps := ["_law_found"]) fun _ _ _ _ _ _ us hl => match us, hl with | [_], _ => rfl
  have F_q_due := fun_mk (st := s_q_due) l_q_due c_q_due k_q_due
  have B_q_due := F_q_due.binds (ps := ["_law_thing"]) fun _ _ _ _ _ _ us hl => match us, hl with | [_], _ => rfl
  have F_q_same := fun_mk (st := s_q_same) l_q_same c_q_same k_q_same
  have B_q_same := F_q_same.binds (ps := ["_law_found", "_law_due_here"]) fun _ _ _ _ _ _ us hl => match us, hl with | [_, _], _ => rfl
  have F_is_whole := fun_mk (st := s_is_whole) l_is_whole c_is_whole k_is_whole
  have B_is_whole := F_is_whole.binds (ps := ["thing"]) fun _ _ _ _ _ _ us hl => match us, hl with | [_], _ => rfl
  have F_are_rounds := fun_mk (st := s_are_rounds) l_are_rounds c_are_rounds k_are_rounds
  have B_are_rounds := F_are_rounds.binds (ps := ["thing"]) fun _ _ _ _ _ _ us hl => match us, hl with | [_], _ => rfl
  have F_Rounds_init := fun_mk (st := s_Rounds_init) l_Rounds_init c_Rounds_init k_Rounds_init
  have B_Rounds_init := F_Rounds_init.binds (ps := ["self", "rounds"]) fun _ _ _ _ _ _ us hl => match us, hl with | [_, _], _ => rfl
  have F_q_refused := fun_mk (st := s_q_refused) l_q_refused c_q_refused k_q_refused
  have B_q_refused := F_q_refused.binds (ps := ["_law_thing"]) fun _ _ _ _ _ _ us hl => match us, hl with | [_], _ => rfl
  have F_law := fun_mk (st := s_law) l_law c_law k_law
  refine ⟨tn, PySem.W.fnOf "law" "law" (defArgs s_law) (defBody s_law) (defScope s_law) .none kV_law dc_law pm_law an_law cd_law ct_law, [], rfl, ?_, fun s u => .of_eq rfl, fun base _ _ hTB => ?_⟩
  · intro t ht
    cases ht
  have T : Txt P w K mg base := {
      zz := trivial,
      n_range := PySem.W.mg_none_of X G z_range,
      n_len := PySem.W.mg_none_of X G z_len,
      n_sum := PySem.W.mg_none_of X G z_sum,
      n_tuple := PySem.W.mg_none_of X G z_tuple,
      n_isinstance := PySem.W.mg_none_of X G z_isinstance,
      n_list := PySem.W.mg_none_of X G z_list,
      n_int := PySem.W.mg_none_of X G z_int,
      n_bool := PySem.W.mg_none_of X G z_bool,
      n_all := PySem.W.mg_none_of X G z_all,
      c_Rounds := cg_by m_Rounds,
      g_MOST_ROUNDS := ⟨_, PySem.W.mg_of X G z_MOST_ROUNDS⟩,
      g_MOST_ELEMENTS := ⟨_, PySem.W.mg_of X G z_MOST_ELEMENTS⟩,
      c_NoRounds := cg_by m_NoRounds,
      e_NoRounds := by rw [ca_NoRounds]; exact exM0_by m_NoRounds ob_NoRounds,
      f_rounds := fldM_by (of_all (ac_c ca_Rounds ac_n)) fl_rounds,
      cl_Rounds_rounds := clM_by (of_all (ac_c ca_Rounds ac_n)) fl_rounds (by simp),
      c_CarryError := cg_by m_CarryError,
      n_ValueError := PySem.W.mg_none_of X G z_ValueError,
      c_NoElement := cg_by m_NoElement,
      c_NoText := cg_by m_NoText,
      isM := isM_of (of_all (ac_c ca_CarryError (ac_c ca_NoRounds (ac_c ca_NoElement (ac_c ca_NoText (ac_c ca_Rounds ac_n)))))) (of_all (ac_c ca_NoRounds (ac_c ca_NoElement (ac_c ca_NoText ac_n)))) hIs,
      ctM := ctM_of (of_all (ac_c ca_CarryError (ac_c ca_NoRounds (ac_c ca_NoElement (ac_c ca_NoText ac_n))))) (of_all (ac_c ca_CarryError ac_n)) hCt }
  have G_q_cell : FnOk P w K mg base (L2N.CX P w) 1 f_q_cell _ ["_law_script", "_law_k"] (spM ⟨P, w, K, mg⟩ .S d_q_cell) := fn_ok F_q_cell sc_q_cell (fun cdv A outer s H E hr => b_q_cell T cdv A outer s H E hr)
  have M_q_cell : FnM P w K mg base 1 "_law_cell" .S d_q_cell := ⟨f_q_cell, _, _, G_q_cell, PySem.W.mg_of X G a_q_cell, k_q_cell, B_q_cell⟩
  have G_q_number : FnOk P w K mg base (L2N.CX P w) 1 f_q_number _ ["_law_cell_here"] (spM ⟨P, w, K, mg⟩ .S d_q_number) := fn_ok F_q_number sc_q_number (fun cdv A outer s H E hr => b_q_number T cdv A outer s H E hr)
  have M_q_number : FnM P w K mg base 1 "_law_number" .S d_q_number := ⟨f_q_number, _, _, G_q_number, PySem.W.mg_of X G a_q_number, k_q_number, B_q_number⟩
  have G_q_odd : FnOk P w K mg base (L2N.CX P w) 1 f_q_odd _ ["_law_cell_here"] (spM ⟨P, w, K, mg⟩ .S d_q_odd) := fn_ok F_q_odd sc_q_odd (fun cdv A outer s H E hr => b_q_odd T cdv A outer s H E hr)
  have M_q_odd : FnM P w K mg base 1 "_law_odd" .S d_q_odd := ⟨f_q_odd, _, _, G_q_odd, PySem.W.mg_of X G a_q_odd, k_q_odd, B_q_odd⟩
  have G_q_whole : FnOk P w K mg base (L2N.CX P w) 1 f_q_whole _ ["_law_found"] (spM ⟨P, w, K, mg⟩ .S d_q_whole) := fn_ok F_q_whole sc_q_whole (fun cdv A outer s H E hr => b_q_whole T cdv A outer s H E hr)
  have M_q_whole : FnM P w K mg base 1 "_law_whole" .S d_q_whole := ⟨f_q_whole, _, _, G_q_whole, PySem.W.mg_of X G a_q_whole, k_q_whole, B_q_whole⟩
  have G_q_due : FnOk P w K mg base (L2N.CX P w) 2 f_q_due _ ["_law_thing"] (spM ⟨P, w, K, mg⟩ .S d_q_due) := fn_ok F_q_due sc_q_due (fun cdv A outer s H E hr => b_q_due T M_q_whole cdv A outer s H E hr)
  have M_q_due : FnM P w K mg base 2 "_law_due" .S d_q_due := ⟨f_q_due, _, _, G_q_due, PySem.W.mg_of X G a_q_due, k_q_due, B_q_due⟩
  have G_q_same : FnOk P w K mg base (L2N.CX P w) 2 f_q_same _ ["_law_found", "_law_due_here"] (spM ⟨P, w, K, mg⟩ .S d_q_same) := fn_ok F_q_same sc_q_same (fun cdv A outer s H E hr => b_q_same T M_q_whole cdv A outer s H E hr)
  have M_q_same : FnM P w K mg base 2 "_law_same" .S d_q_same := ⟨f_q_same, _, _, G_q_same, PySem.W.mg_of X G a_q_same, k_q_same, B_q_same⟩
  have G_is_whole : FnOk P w K mg base (L2N.CX P w) 1 f_is_whole _ ["thing"] (spM ⟨P, w, K, mg⟩ .S d_is_whole) := fn_ok F_is_whole sc_is_whole (fun cdv A outer s H E hr => b_is_whole T cdv A outer s H E hr)
  have M_is_whole : FnM P w K mg base 1 "is_whole" .S d_is_whole := ⟨f_is_whole, _, _, G_is_whole, PySem.W.mg_of X G a_is_whole, k_is_whole, B_is_whole⟩
  have G_are_rounds : FnOk P w K mg base (L2N.CX P w) 2 f_are_rounds _ ["thing"] (spM ⟨P, w, K, mg⟩ .S d_are_rounds) := fn_ok F_are_rounds sc_are_rounds (fun cdv A outer s H E hr => b_are_rounds T M_is_whole cdv A outer s H E hr)
  have M_are_rounds : FnM P w K mg base 2 "are_rounds" .S d_are_rounds := ⟨f_are_rounds, _, _, G_are_rounds, PySem.W.mg_of X G a_are_rounds, k_are_rounds, B_are_rounds⟩
  have G_Rounds_init := fn_okI (P := P) (w := w) (mg := mg) (base := base) (c := 0) (g := e_Rounds_init) F_Rounds_init sc_Rounds_init (by decide) (fun cdv A outer s H E x hr => b_Rounds_init T M_are_rounds cdv A outer s H E x hr)
  have MK_Rounds : MkM P w K mg base 3 0 d_Rounds_init := ⟨f_Rounds_init, _, _, G_Rounds_init, (by rw [ca_Rounds]; exact ⟨mk_Rounds, a_Rounds_init, i_Rounds_init, kc_Rounds⟩), cg_by m_Rounds, B_Rounds_init⟩
  have G_q_refused : FnOk P w K mg base (L2N.CX P w) 5 f_q_refused _ ["_law_thing"] (spM ⟨P, w, K, mg⟩ .S d_q_refused) := fn_ok F_q_refused sc_q_refused (fun cdv A outer s H E hr => b_q_refused T MK_Rounds cdv A outer s H E hr)
  have M_q_refused : FnM P w K mg base 5 "_law_refused" .S d_q_refused := ⟨f_q_refused, _, _, G_q_refused, PySem.W.mg_of X G a_q_refused, k_q_refused, B_q_refused⟩
  have G_law : FnOk P w K mg base (L2N.CX P w) 6 fa _ ["_law_script"] (spM ⟨P, w, K, mg⟩ .S d_law) := fn_ok F_law sc_law (fun cdv A outer s H E hr => b_law T M_q_cell M_q_number M_q_odd M_q_due M_q_same MK_Rounds M_q_refused cdv A outer s H E hr)
  exact G_law
noncomputable instance tnD : Tn := ⟨fun _ => "", []⟩
end Mir.K02
namespace Mir.K02
open PySem PySem.Spec PyProof.Rows L2
set_option maxHeartbeats 1000000
/-- what a cell comes to -/
noncomputable def cellV (ns : List Int) (k : Int) : Int :=
  let here := if 0 < ns.length then ns.getD (k % ns.length).toNat 0 else 0
  if ns.sum % 2 = 1 then here else
    let first := (here % 1000000007 + 7919 * k + 11) * 48271 % 2147483647
    (first * 69621 + 17 * k) % 2147483629 * 2147483647 + first * 16807 % 2147483647
theorem cell_ok (ns : List Int) (k : Int) (h0 : 0 ≤ k) (h1 : k ≤ 10 ^ 30) : d_q_cell [.scr ns, .int k] = .ok (.int (cellV ns k)) := by
  have e1 : e_q_cell (startD N_q_cell.length [.scr ns, .int k]) = .rt (.int (cellV ns k)) := by
    have st : startD N_q_cell.length [.scr ns, .int k] = [.sh (.scr ns), .sh (.int k), .un, .un] := rfl
    rw [st]
    unfold e_q_cell cellV
    by_cases hn : 0 < ns.length
    · have hm := Int.emod_nonneg k (b := (ns.length : Int)) (by omega)
      have hm2 := Int.emod_lt_of_pos k (b := (ns.length : Int)) (by omega)
      have hix : ixD (.scr ns) (.int (k % ns.length)) = .ok (.int (ns.getD (k % ns.length).toNat 0)) := by
        rw [ixD_scr, atI_getD hm hm2]
      generalize hc : ns.getD (k % ns.length).toNat 0 = c at hix
      have b1 := bits_60 (i := c % 1000000007 + 7919 * k + 11) (by omega) (by omega)
      have b2 := bits_60 (i := 48271) (by omega) (by omega)
      have b3 := bits_60 (i := k) (by omega) (by omega)
      have b4 := bits_60 (i := 7919) (by omega) (by omega)
      have b5 := bits_60 (i := (c % 1000000007 + 7919 * k + 11) * 48271 % 2147483647) (by omega) (by omega)
      have b6 := bits_60 (i := 69621) (by omega) (by omega)
      have b7 := bits_60 (i := 17) (by omega) (by omega)
      have b8 := bits_60 (i := ((c % 1000000007 + 7919 * k + 11) * 48271 % 2147483647 * 69621 + 17 * k) % 2147483629) (by omega) (by omega)
      have b9 := bits_60 (i := 2147483647) (by omega) (by omega)
      have b10 := bits_60 (i := 16807) (by omega) (by omega)
      by_cases hs : ns.sum % 2 = 1
      · simp [hn, hs, hix, modD_ok]
      · simp [hn, hs, hix, modD_ok, mulD_ok, b1, b2, b3, b4, b5, b6, b7, b8, b9, b10]
    · have b1 := bits_60 (i := 0 % 1000000007 + 7919 * k + 11) (by omega) (by omega)
      have b2 := bits_60 (i := 48271) (by omega) (by omega)
      have b3 := bits_60 (i := k) (by omega) (by omega)
      have b4 := bits_60 (i := 7919) (by omega) (by omega)
      have b5 := bits_60 (i := (0 % 1000000007 + 7919 * k + 11) * 48271 % 2147483647) (by omega) (by omega)
      have b6 := bits_60 (i := 69621) (by omega) (by omega)
      have b7 := bits_60 (i := 17) (by omega) (by omega)
      have b8 := bits_60 (i := ((0 % 1000000007 + 7919 * k + 11) * 48271 % 2147483647 * 69621 + 17 * k) % 2147483629) (by omega) (by omega)
      have b9 := bits_60 (i := 2147483647) (by omega) (by omega)
      have b10 := bits_60 (i := 16807) (by omega) (by omega)
      have hl : ns.length = 0 := by omega
      have e0 : ns = [] := List.length_eq_zero_iff.mp hl
      subst e0
      simp at b1 b5 b8
      simp [modD_ok, mulD_ok, b1, b2, b3, b4, b5, b6, b7, b8, b9, b10]
  exact runD_rt rfl e1
theorem is_whole_int (i : Int) : d_is_whole [.int i] = .ok (.bl true) := by kernel_rfl
theorem rounds_turn (src : D) (m n : Int) (h2 : 2 ≤ n) (h144 : n ≤ 144) (a : Slot) : are_rounds_l1 (.int n) [.sh src, .sh (.int m), a] = .nx [.sh src, .sh (.int (m * n)), .sh (.int n)] := by
  have z1 : ¬ n < 2 := by omega
  have z2 : ¬ 144 < n := by omega
  have z3 : mulD (.int m) (.int n) = .ok (.int (m * n)) := mulD_small (.inr ⟨by omega, by omega⟩)
  simp [are_rounds_l1, is_whole_int, z1, z2, z3]
theorem rounds_ok {rs : List Int} (h : OkG rs) (src : D) (hs : src = tuI rs ∨ src = liI rs) : d_are_rounds [src] = .ok (.bl true) := by
  refine runD_rt rfl ?_
  have st : startD N_are_rounds.length [src] = [.sh src, .un, .un] := rfl
  rw [st]
  have hi := is_seq src rs hs isC isU
  have hl : lenD src = .ok (.int rs.length) := by rcases hs with rfl | rfl <;> simp
  have it : itemsD src = .ok (rs.map .int) := by rcases hs with rfl | rfl <;> rfl
  have l7 := h.ok.len
  obtain ⟨r', loop, a, rfl⟩ := forD_ix (f := are_rounds_l1) (ds := rs.map .int) (fun i r => ∃ a, r = [.sh src, .sh (.int ((rs.take i).foldl (· * ·) 1)), a]) (fun i d hd r ⟨a, e⟩ => by
    rw [List.getElem?_map, Option.map_eq_some_iff] at hd
    obtain ⟨n, hn, rfl⟩ := hd
    subst e
    have hm := List.mem_of_getElem? hn
    refine ⟨_, rounds_turn src _ n (h.ok.two n hm) (h.most n hm) a, .sh (.int n), ?_⟩
    rw [take_more hn, List.foldl_append]
    rfl) (r := [.sh src, .sh (.int 1), .un]) ⟨.un, rfl⟩
  rw [List.length_map, List.take_length] at loop
  have z : ¬ (7 : Int) < rs.length := by omega
  unfold e_are_rounds
  simp [-itemsD, hi, hl, it, z, loop, h.prod, lim]
theorem init_ok {rs : List Int} (h : OkG rs) (src : D) (hs : src = tuI rs ∨ src = liI rs) : d_Rounds_init [src] = .ok (gR rs) := by
  have e1 : e_Rounds_init (startI N_Rounds_init.length 0 [src]) = .nx [.ow .flat (gR rs), .sh src] := by
    have st : startI N_Rounds_init.length 0 [src] = [.ow .flat (.obj 0 []), .sh src] := rfl
    rw [st]
    have tu : tupleD src = .ok (tuI rs) := by rcases hs with rfl | rfl <;> rfl
    unfold e_Rounds_init
    simp only [getS_succ, getS0, ok_bind, one, rounds_ok h src hs, asB_bl, lift_ok, Bool.not_true, Bool.false_eq_true, if_false, nx_seq, tu]
    rfl
  exact runI_nx rfl e1
/-- numbers of at most thirty figures -/
noncomputable def Dr (n : Int) : Prop := n.natAbs < 2 ^ 100
theorem divL {i : Int} {j : Int} (h1 : 0 < j) (h2 : j ≤ 10 ^ 60) : divD (.int i) (.int j) = .ok (.int (i / j)) := divD_ok h1 (bits_60 (by omega) h2)
theorem mod_cases4 {n : Int} (h : n = n) : n % 4 = 0 ∨ n % 4 = 1 ∨ n % 4 = 2 ∨ n % 4 = 3 := by omega
theorem number_dr (c : Int) : ∃ n, d_q_number [.int c] = .ok (.int n) ∧ Dr n := by
  by_cases h : c % 6 > 0
  · have hh : (0 : Int) < c % 6 := h
    obtain ⟨m, hm, hm2⟩ : ∃ m : Int, ixD (.lst [.int 3, .int 3, .int 11, .int 30]) (.int (c / 600 % 4)) = .ok (.int m) ∧ (m = 3 ∨ m = 11 ∨ m = 30) := by
      rcases mod_cases4 (n := c / 600) rfl with e | e | e | e <;> rw [e]
      · exact ⟨3, rfl, by omega⟩
      · exact ⟨3, rfl, by omega⟩
      · exact ⟨11, rfl, by omega⟩
      · exact ⟨30, rfl, by omega⟩
    refine ⟨2 + c / 6 % m, ?_, ?_⟩
    · refine runD_rt rfl ?_
      have st : startD N_q_number.length [.int c] = [.sh (.int c)] := rfl
      rw [st]
      unfold e_q_number
      simp [modD_ok, divL, hh, hm, -ixD_lst, lstD, lim, show 0 < m by omega]
    · unfold Dr
      have h1 := Int.emod_nonneg (c / 6) (b := m) (by omega)
      have h2 := Int.emod_lt_of_pos (c / 6) (b := m) (by omega)
      have : (2 + c / 6 % m).natAbs < 40 := by omega
      exact Nat.lt_trans this (by decide)
  · have hh : ¬ (0 : Int) < c % 6 := h
    have h8 : c / 6 % 8 = 0 ∨ c / 6 % 8 = 1 ∨ c / 6 % 8 = 2 ∨ c / 6 % 8 = 3 ∨ c / 6 % 8 = 4 ∨ c / 6 % 8 = 5 ∨ c / 6 % 8 = 6 ∨ c / 6 % 8 = 7 := by omega
    have p1 : powD (.int 10) (.int 25) = .ok (.int (10 ^ 25)) := rfl
    have p2 : powD (.int 10) (.int 9) = .ok (.int (10 ^ 9)) := rfl
    obtain ⟨m, hm, hm2⟩ : ∃ m : Int, ixD (.lst [.int 0, .int 1, .int (-2), .int 145, .int 144, .int (72 + c / 60 % 80), .int (10 ^ 25), .int (-1 - c / 60 % 10 ^ 9)]) (.int (c / 6 % 8)) = .ok (.int m) ∧ m.natAbs ≤ 10 ^ 25 := by
      rcases h8 with e | e | e | e | e | e | e | e <;> rw [e]
      · exact ⟨_, rfl, by decide⟩
      · exact ⟨_, rfl, by decide⟩
      · exact ⟨_, rfl, by decide⟩
      · exact ⟨_, rfl, by decide⟩
      · exact ⟨_, rfl, by decide⟩
      · exact ⟨_, rfl, by omega⟩
      · exact ⟨_, rfl, by decide⟩
      · exact ⟨_, rfl, by omega⟩
    refine ⟨m, ?_, Nat.lt_of_le_of_lt hm2 (by decide)⟩
    refine runD_rt rfl ?_
    have st : startD N_q_number.length [.int c] = [.sh (.int c)] := rfl
    rw [st]
    have n1 : negD (.int 2) = .ok (.int (-2)) := rfl
    have n2 : negD (.int 1) = .ok (.int (-1)) := rfl
    unfold e_q_number
    simp [modD_ok, divL, hh, -ixD_lst, p1, p2, n1, n2, lstD, lim] at hm ⊢
    rw [hm]
    rfl
theorem whole_int (n : Int) : d_q_whole [.int n] = .ok (.bl true) := rfl
/-- what the law asks of rounds -/
noncomputable def dueB (xs : List Int) : Bool := xs.all (fun n => decide (2 ≤ n)) && (decide (xs.length < 8) && decide (xs.foldl (· * ·) 1 ≤ 144))
theorem mul_dr {m n : Int} {i : Nat} (h : m.natAbs < 2 ^ (100 * i + 1)) (hi : i ≤ 8) (hn : Dr n) : mulD (.int m) (.int n) = .ok (.int (m * n)) ∧ (m * n).natAbs < 2 ^ (100 * (i + 1) + 1) := by
  have b1 := bits_lt (i := m) (n := 100 * i + 1) (by omega) h
  have b2 := bits_lt (i := n) (n := 100) (by omega) hn
  refine ⟨?_, ?_⟩
  · show (if bits m + bits n < 1000000 ∨ CMul m n then _ else _) = _
    rw [if_pos (.inl (by omega))]
  · rw [Int.natAbs_mul]
    have : 2 ^ (100 * (i + 1) + 1) = 2 ^ (100 * i + 1) * 2 ^ 100 := by rw [← Nat.pow_add, show 100 * (i + 1) + 1 = 100 * i + 1 + 100 by omega]
    rw [this]
    exact Nat.mul_lt_mul'' h hn
theorem due_turn (src : D) (m n : Int) {i : Nat} (h : m.natAbs < 2 ^ (100 * i + 1)) (hi : i ≤ 8) (hn : Dr n) (a : Slot) : q_due_l1 (.int n) [.sh src, .sh (.int m), a] = if 2 ≤ n then .nx [.sh src, .sh (.int (m * n)), .sh (.int n)] else .rt (.bl false) := by
  obtain ⟨z, _⟩ := mul_dr h hi hn
  by_cases h2 : 2 ≤ n
  · have h3 : ¬ n < 2 := by omega
    simp [q_due_l1, whole_int, z, h2, h3]
  · have h3 : n < 2 := by omega
    simp [q_due_l1, whole_int, h2, h3]
/-- the loop over the rounds -/
theorem due_loop (src : D) : ∀ (xs : List Int) (m : Int) (i : Nat) (a : Slot), m.natAbs < 2 ^ (100 * i + 1) → i + xs.length ≤ 9 → (∀ n ∈ xs, Dr n) →
    ∃ b, forD q_due_l1 (xs.map .int) [.sh src, .sh (.int m), a] = if xs.all (fun n => decide (2 ≤ n)) = true then .nx [.sh src, .sh (.int (xs.foldl (· * ·) m)), b] else .rt (.bl false)
  | [], m, i, a, _, _, _ => ⟨a, rfl⟩
  | n :: xs, m, i, a, h, hl, hd => by
    have hn := hd n List.mem_cons_self
    simp only [List.length_cons] at hl
    obtain ⟨_, z⟩ := mul_dr h (by omega) hn
    have t := due_turn src m n h (by omega) hn a
    by_cases h2 : 2 ≤ n
    · rw [if_pos h2] at t
      obtain ⟨b, ih⟩ := due_loop src xs (m * n) (i + 1) (.sh (.int n)) z (by omega) fun x hx => hd x (List.mem_cons_of_mem _ hx)
      refine ⟨b, ?_⟩
      rw [List.map_cons, forD_cons, t]
      simp only
      rw [ih, List.all_cons, List.foldl_cons, decide_eq_true h2, Bool.true_and]
    · rw [if_neg h2] at t
      refine ⟨a, ?_⟩
      rw [List.map_cons, forD_cons, t, List.all_cons, decide_eq_false h2, Bool.false_and]
      rfl
/-- a list or a tuple of numbers -/
noncomputable def Src (xs : List Int) (src : D) : Prop := src = tuI xs ∨ src = liI xs
theorem Src.len {xs : List Int} {src : D} (h : Src xs src) : lenD src = .ok (.int xs.length) := by rcases h with rfl | rfl <;> simp
theorem Src.items {xs : List Int} {src : D} (h : Src xs src) : itemsD src = .ok (xs.map .int) := by rcases h with rfl | rfl <;> rfl
theorem due_ok {xs : List Int} {src : D} (h : Src xs src) (hl : xs.length ≤ 8) (hd : ∀ n ∈ xs, Dr n) : d_q_due [src] = .ok (.bl (dueB xs)) := by
  refine runD_rt rfl ?_
  have st : startD N_q_due.length [src] = [.sh src, .un, .un] := rfl
  rw [st]
  have h1 := h.len
  have h2 := h.items
  have h3 : ∃ t, isD isC isU src (.ty "list") = .ok (.bl t) ∧ isD isC isU src (.ty "tuple") = .ok (.bl (!t)) := by
    rcases h with rfl | rfl
    · exact ⟨false, by kernel_rfl, by kernel_rfl⟩
    · exact ⟨true, by kernel_rfl, by kernel_rfl⟩
  obtain ⟨t, hL, hT⟩ := h3
  obtain ⟨b, lp⟩ := due_loop src xs 1 0 .un (by decide) (by omega) hd
  unfold e_q_due dueB
  generalize q_due_l1 = g at lp ⊢
  generalize xs.map D.int = ws at lp h2
  by_cases hall : xs.all (fun n => decide (2 ≤ n)) = true
  · rw [if_pos hall] at lp
    rw [hall]
    by_cases h8 : (xs.length : Int) < 8
    · have h9 : xs.length < 8 := by omega
      cases t <;> simp [hL, hT, h1, h2, lp, h8, h9, -itemsD]
    · have h9 : ¬ xs.length < 8 := by omega
      cases t <;> simp [hL, hT, h1, h2, lp, h8, h9, -itemsD]
  · have hall' : xs.all (fun n => decide (2 ≤ n)) = false := by simpa using hall
    rw [if_neg hall] at lp
    rw [hall']
    cases t <;> simp [hL, hT, h1, h2, lp, -itemsD]
theorem are_turn (src : D) (m n : Int) {i : Nat} (h : m.natAbs < 2 ^ (100 * i + 1)) (hi : i ≤ 8) (hn : Dr n) (a : Slot) : are_rounds_l1 (.int n) [.sh src, .sh (.int m), a] = if 2 ≤ n ∧ n ≤ 144 then .nx [.sh src, .sh (.int (m * n)), .sh (.int n)] else .rt (.bl false) := by
  obtain ⟨z, _⟩ := mul_dr h hi hn
  by_cases h2 : 2 ≤ n
  · have h3 : ¬ n < 2 := by omega
    by_cases h4 : n ≤ 144
    · have h5 : ¬ 144 < n := by omega
      simp [are_rounds_l1, is_whole_int, z, h2, h3, h4, h5]
    · have h5 : 144 < n := by omega
      simp [are_rounds_l1, is_whole_int, h2, h3, h4, h5]
  · have h3 : n < 2 := by omega
    simp [are_rounds_l1, is_whole_int, h2, h3]
noncomputable def inR2 (n : Int) : Bool := decide (2 ≤ n ∧ n ≤ 144)
theorem are_loop (src : D) : ∀ (xs : List Int) (m : Int) (i : Nat) (a : Slot), m.natAbs < 2 ^ (100 * i + 1) → i + xs.length ≤ 9 → (∀ n ∈ xs, Dr n) →
    ∃ b, forD are_rounds_l1 (xs.map .int) [.sh src, .sh (.int m), a] = if xs.all inR2 = true then .nx [.sh src, .sh (.int (xs.foldl (· * ·) m)), b] else .rt (.bl false)
  | [], m, i, a, _, _, _ => ⟨a, rfl⟩
  | n :: xs, m, i, a, h, hl, hd => by
    have hn := hd n List.mem_cons_self
    simp only [List.length_cons] at hl
    obtain ⟨_, z⟩ := mul_dr h (by omega) hn
    have t := are_turn src m n h (by omega) hn a
    by_cases h2 : 2 ≤ n ∧ n ≤ 144
    · rw [if_pos h2] at t
      obtain ⟨b, ih⟩ := are_loop src xs (m * n) (i + 1) (.sh (.int n)) z (by omega) fun x hx => hd x (List.mem_cons_of_mem _ hx)
      refine ⟨b, ?_⟩
      rw [List.map_cons, forD_cons, t]
      simp only
      rw [ih, List.all_cons, List.foldl_cons, show inR2 n = true from decide_eq_true h2, Bool.true_and]
    · rw [if_neg h2] at t
      refine ⟨a, ?_⟩
      rw [List.map_cons, forD_cons, t, List.all_cons, show inR2 n = false from decide_eq_false h2, Bool.false_and]
      rfl
theorem are_false {xs : List Int} {src : D} (h : Src xs src) (hl : xs.length ≤ 8) (hd : ∀ n ∈ xs, Dr n) (no : ¬ (xs.all inR2 = true ∧ xs.length ≤ 7 ∧ xs.foldl (· * ·) 1 ≤ 144)) : d_are_rounds [src] = .ok (.bl false) := by
  refine runD_rt rfl ?_
  have st : startD N_are_rounds.length [src] = [.sh src, .un, .un] := rfl
  rw [st]
  have h1 := h.len
  have h2 := h.items
  have hi := is_seq src xs h isC isU
  obtain ⟨b, lp⟩ := are_loop src xs 1 0 .un (by decide) (by omega) hd
  unfold e_are_rounds
  generalize are_rounds_l1 = g at lp ⊢
  generalize xs.map D.int = ws at lp h2
  by_cases h7 : (7 : Int) < xs.length
  · simp [hi, h1, h2, h7, lstD, tupD, lim, -itemsD]
  · by_cases hall : xs.all inR2 = true
    · rw [if_pos hall] at lp
      have np : ¬ xs.foldl (· * ·) 1 ≤ 144 := fun z => no ⟨hall, by omega, z⟩
      simp [hi, h1, h2, h7, lp, np, lim, -itemsD]
    · rw [if_neg hall] at lp
      simp [hi, h1, h2, h7, lp, lim, -itemsD]
theorem prod_up : ∀ (xs : List Int) (m : Int), (∀ n ∈ xs, 2 ≤ n) → 1 ≤ m → m ≤ xs.foldl (· * ·) m ∧ ∀ n ∈ xs, n ≤ xs.foldl (· * ·) m
  | [], m, _, _ => ⟨Int.le_refl _, fun _ z => nomatch z⟩
  | x :: xs, m, h, hm => by
    have hx := h x List.mem_cons_self
    have h1 : m ≤ m * x := by
      have := Int.mul_le_mul_of_nonneg_left (show (1 : Int) ≤ x by omega) (show 0 ≤ m by omega)
      simpa using this
    have h2 : x ≤ m * x := by
      have := Int.mul_le_mul_of_nonneg_right hm (show 0 ≤ x by omega)
      simpa using this
    obtain ⟨p1, p2⟩ := prod_up xs (m * x) (fun n hn => h n (List.mem_cons_of_mem _ hn)) (by omega)
    rw [List.foldl_cons]
    refine ⟨by omega, fun n hn => ?_⟩
    rcases List.mem_cons.mp hn with rfl | hn
    · omega
    · exact p2 n hn
theorem due_iff {xs : List Int} : dueB xs = true ↔ (xs.all inR2 = true ∧ xs.length ≤ 7 ∧ xs.foldl (· * ·) 1 ≤ 144) := by
  unfold dueB
  simp only [Bool.and_eq_true, decide_eq_true_eq, List.all_eq_true, inR2]
  constructor
  · rintro ⟨h1, h2, h3⟩
    exact ⟨fun n hn => ⟨h1 n hn, by have := (prod_up xs 1 h1 (by omega)).2 n hn; omega⟩, by omega, h3⟩
  · rintro ⟨h1, h2, h3⟩
    exact ⟨fun n hn => (h1 n hn).1, by omega, h3⟩
theorem okG_of {xs : List Int} (h : dueB xs = true) : OkG xs := by
  obtain ⟨h1, h2, h3⟩ := due_iff.mp h
  simp only [List.all_eq_true, inR2, decide_eq_true_eq] at h1
  exact ⟨⟨fun n hn => (h1 n hn).1, h2⟩, fun n hn => (h1 n hn).2, h3⟩
theorem same_ok {xs : List Int} (h8 : xs.length ≤ 8) : d_q_same [tuI xs, tuI xs] = .ok (.bl true) := by
  refine runD_rt rfl ?_
  have st : startD N_q_same.length [tuI xs, tuI xs] = [.sh (tuI xs), .sh (tuI xs), .un] := rfl
  rw [st]
  have hi : isD isC isU (tuI xs) (.ty "tuple") = .ok (.bl true) := by kernel_rfl
  have lc : q_same_c1 [.sh (tuI xs), .sh (tuI xs), .un] (xs.map .int) = .ok (xs.map fun _ => D.bl true) := by
    unfold q_same_c1
    exact lcD_ints (fun _ => D.bl true) fun a _ => ⟨rfl, whole_int a⟩
  have e1 : (xs.map fun _ => D.bl true) = (xs.map fun _ => true).map D.bl := by rw [List.map_map]; rfl
  have at_ : allT (.lst (xs.map fun _ => D.bl true)) = .ok (.bl true) := by
    rw [e1, allT_bls]
    simp
  unfold e_q_same
  have hl : (xs.map fun _ => D.bl true).length ≤ lim := by rw [List.length_map]; exact Nat.le_trans h8 (by decide)
  have ls : lstD (xs.map fun _ => D.bl true) = .ok (.lst (xs.map fun _ => D.bl true)) := by unfold lstD; rw [if_pos hl]
  generalize (xs.map fun _ => D.bl true) = ys at lc at_ ls
  simp [hi, lc, at_, ls, eqD_tI, -itemsD, -lstD, show itemsD (tuI xs) = .ok (xs.map .int) from rfl]
theorem refused_ok {src : D} (h : d_are_rounds [src] = .ok (.bl false)) : d_q_refused [src] = .ok (.bl true) := by
  have e1 : e_Rounds_init (startI N_Rounds_init.length 0 [src]) = .er (.exc 11 []) [.ow .flat (.obj 0 []), .sh src] := by
    have st : startI N_Rounds_init.length 0 [src] = [.ow .flat (.obj 0 []), .sh src] := rfl
    rw [st]
    unfold e_Rounds_init
    simp only [getS_succ, getS0, ok_bind, h, asB_bl, lift_ok, Bool.not_false, if_true, er_seq]
  have e2 : d_Rounds_init [src] = .er (.exc 11 []) := by
    show runI 1 _ 0 _ _ = _
    unfold runI
    rw [if_pos (by rfl), e1]
  refine runD_rt rfl ?_
  have st : startD N_q_refused.length [src] = [.sh src, .un, .un] := rfl
  rw [st]
  have l4 : 4 ≤ lim := by decide
  have cc : ctC.contains 11 = true := by decide
  have cu : ctU.contains 10 = true := by decide
  have ov : overC 11 10 = true := by decide
  have i1 : isD isC isU (.exc 11 []) (.cls 11) = .ok (.bl true) := by kernel_rfl
  have i2 : isD isC isU (.exc 11 []) (.ty "ValueError") = .ok (.bl true) := by kernel_rfl
  have i3 : isD isC isU (.exc 11 []) (.cls 12) = .ok (.bl false) := by kernel_rfl
  have i4 : isD isC isU (.exc 11 []) (.cls 22) = .ok (.bl false) := by kernel_rfl
  have q : eqD (.lst [.bl true, .bl true, .bl false, .bl false]) (.lst [.bl true, .bl true, .bl false, .bl false]) = .ok (.bl true) := by kernel_rfl
  simp [e_q_refused, e2, tryD, catchD, bindI, closeI, clrI, cc, cu, ov, i1, i2, i3, i4, l4, q, -List.contains_eq_mem]
noncomputable def oddL : List D := [.non, .bl true, .int 2, .str "", .str "2x2", .dic [] [], .tup [], .lst [], .lst [.bl true], .lst [.int 2, .bl true], .lst [.str "2"], .lst [.lst [.int 2]], .lst [.non], .tup [.int 2, .tup [.int 2]], .dct [.inl 2] [.int 2],
  .lst [.int 2, .lst []], .str "22", .lst [.int 2, .int 2, .str "x"], tuI [144], liI [145], liI [12, 12], liI [12, 13], tuI [2, 2, 2, 2, 2, 2, 2], liI [2, 2, 2, 2, 2, 2, 2, 2], liI [3, 3, 3, 3, 3]]
theorem odd_ok (c : Int) : ∃ j : Nat, j < 25 ∧ d_q_odd [.int c] = .ok (oddL.getD j .non) := by
  have hn : 0 ≤ c % 25 ∧ c % 25 < 25 := by omega
  refine ⟨(c % 25).toNat, by omega, ?_⟩
  refine runD_rt rfl ?_
  have st : startD N_q_odd.length [.int c] = [.sh (.int c), .un] := rfl
  rw [st]
  have e : e_q_odd [.sh (.int c), .un] = (lift (modD (.int c) (.int 25) >>= fun y => ixD (.lst oddL) y) [.sh (.int c), .sh (.lst oddL)] fun d => .rt d) := by kernel_rfl
  rw [e, modD_ok (by omega)]
  generalize c % 25 = n at hn ⊢
  have : n = 0 ∨ n = 1 ∨ n = 2 ∨ n = 3 ∨ n = 4 ∨ n = 5 ∨ n = 6 ∨ n = 7 ∨ n = 8 ∨ n = 9 ∨ n = 10 ∨ n = 11 ∨ n = 12 ∨ n = 13 ∨ n = 14 ∨ n = 15 ∨ n = 16 ∨ n = 17 ∨ n = 18 ∨ n = 19 ∨ n = 20 ∨ n = 21 ∨ n = 22 ∨ n = 23 ∨ n = 24 := by omega
  rcases this with rfl | rfl | rfl | rfl | rfl | rfl | rfl | rfl | rfl | rfl | rfl | rfl | rfl | rfl | rfl | rfl | rfl | rfl | rfl | rfl | rfl | rfl | rfl | rfl | rfl <;> rfl
/-- a turn's end: the thing stands in the fourth slot -/
noncomputable def tail02 : Env → Oc := fun r => (law_s1_4 r).seq fun r => ((law_s1_5 r).seq fun r => ((law_s1_6 r).seq fun r => (law_s1_7 r)))
noncomputable def keptO (d : D) : D := match d with
  | .lst ds => .lst ds
  | d => d
theorem tail_odd (a b c : D) (e f : Slot) : ∀ j : Nat, j < 25 → tail02 [.sh a, .sh b, .sh c, .sh (oddL.getD j .non), e, f] = .nx [.sh a, .sh b, .sh c, .sh (oddL.getD j .non), .sh (keptO (oddL.getD j .non)), f]
  | 0, _ => by kernel_rfl
  | 1, _ => by kernel_rfl
  | 2, _ => by kernel_rfl
  | 3, _ => by kernel_rfl
  | 4, _ => by kernel_rfl
  | 5, _ => by kernel_rfl
  | 6, _ => by kernel_rfl
  | 7, _ => by kernel_rfl
  | 8, _ => by kernel_rfl
  | 9, _ => by kernel_rfl
  | 10, _ => by kernel_rfl
  | 11, _ => by kernel_rfl
  | 12, _ => by kernel_rfl
  | 13, _ => by kernel_rfl
  | 14, _ => by kernel_rfl
  | 15, _ => by kernel_rfl
  | 16, _ => by kernel_rfl
  | 17, _ => by kernel_rfl
  | 18, _ => by kernel_rfl
  | 19, _ => by kernel_rfl
  | 20, _ => by kernel_rfl
  | 21, _ => by kernel_rfl
  | 22, _ => by kernel_rfl
  | 23, _ => by kernel_rfl
  | 24, _ => by kernel_rfl
  | j + 25, h => absurd h (by omega)
theorem tail_src {xs : List Int} {src : D} (h : Src xs src) (hl : xs.length ≤ 8) (hd : ∀ n ∈ xs, Dr n) (a b c : D) (e f : Slot) : ∃ x, tail02 [.sh a, .sh b, .sh c, .sh src, e, f] = .nx [.sh a, .sh b, .sh c, .sh src, x, f] := by
  have s4 : law_s1_4 [.sh a, .sh b, .sh c, .sh src, e, f] = .nx [.sh a, .sh b, .sh c, .sh src, .sh src, f] := rfl
  have s5 : law_s1_5 [.sh a, .sh b, .sh c, .sh src, .sh src, f] = .nx [.sh a, .sh b, .sh c, .sh src, .sh src, f] := by
    rcases h with rfl | rfl
    · kernel_rfl
    · have : isD isC isU (liI xs) (.ty "list") = .ok (.bl true) := by kernel_rfl
      have l : listD (liI xs) = .ok (liI xs) := rfl
      simp [law_s1_5, law_s1_5_1, this, l, -listD]
  have s7 : law_s1_7 [.sh a, .sh b, .sh c, .sh src, .sh src, f] = .nx [.sh a, .sh b, .sh c, .sh src, .sh src, f] := by
    have q : neV src src = .ok (.bl false) := by
      have k : okQ 64 src = true := by rcases h with rfl | rfl <;> exact okQ_ints 63 xs
      have e : neV src src = neD src src := by rcases h with rfl | rfl <;> rfl
      rw [e, neD_ok k k, eqQ_refl 64 _ k]
      rfl
    simp [law_s1_7, q]
  have s6 : law_s1_6 [.sh a, .sh b, .sh c, .sh src, .sh src, f] = .nx [.sh a, .sh b, .sh c, .sh src, .sh src, f] := by
    have d1 := due_ok h hl hd
    cases e1 : dueB xs with
    | true =>
      have g := okG_of e1
      have i1 := init_ok g src h
      have t1 : tupleD src = .ok (tuI xs) := by rcases h with rfl | rfl <;> rfl
      have sm := same_ok (xs := xs) hl
      have fr := fld_rounds xs
      rw [e1] at d1
      simp [law_s1_6, law_s1_6_1, d1, i1, t1, sm, fr, -tupleD]
    | false =>
      have no : ¬ (xs.all inR2 = true ∧ xs.length ≤ 7 ∧ xs.foldl (· * ·) 1 ≤ 144) := fun z => by
        rw [due_iff.mpr z] at e1; cases e1
      have r1 := refused_ok (are_false h hl hd no)
      rw [e1] at d1
      simp [law_s1_6, law_s1_6_0_1, d1, r1]
  exact ⟨.sh src, by unfold tail02; rw [s4, nx_seq, s5, nx_seq, s6, nx_seq, s7]⟩
theorem len9 (n : Int) : ∃ m : Nat, ixD (.lst [.int 0, .int 1, .int 2, .int 2, .int 3, .int 3, .int 4, .int 7, .int 8]) (.int (n % 9)) = .ok (.int m) ∧ m ≤ 8 := by
  have h : n % 9 = 0 ∨ n % 9 = 1 ∨ n % 9 = 2 ∨ n % 9 = 3 ∨ n % 9 = 4 ∨ n % 9 = 5 ∨ n % 9 = 6 ∨ n % 9 = 7 ∨ n % 9 = 8 := by omega
  rcases h with h | h | h | h | h | h | h | h | h <;> rw [h]
  · exact ⟨0, rfl, by omega⟩
  · exact ⟨1, rfl, by omega⟩
  · exact ⟨2, rfl, by omega⟩
  · exact ⟨2, rfl, by omega⟩
  · exact ⟨3, rfl, by omega⟩
  · exact ⟨3, rfl, by omega⟩
  · exact ⟨4, rfl, by omega⟩
  · exact ⟨7, rfl, by omega⟩
  · exact ⟨8, rfl, by omega⟩
noncomputable def num02 (c : Int) : Int := Classical.choose (number_dr c)
theorem num02_ok (c : Int) : d_q_number [.int c] = .ok (.int (num02 c)) ∧ Dr (num02 c) := Classical.choose_spec (number_dr c)
theorem numbers_ok (ns : List Int) (k : Nat) (hk : k < 6) (a b c d : Slot) (m : Nat) (hm : m ≤ 8) : ∃ xs : List Int, law_c1 [.sh (.scr ns), .sh (.int k), a, b, c, d] (rangeL 0 m) = .ok (xs.map .int) ∧ xs.length = m ∧ ∀ n ∈ xs, Dr n := by
  refine ⟨(List.range m).map fun j : Nat => num02 (cellV ns (4 * (k : Int) + 1 + (j : Int))), ?_, by simp, fun n hn => ?_⟩
  · unfold law_c1
    have w : wipeR [.sh (.scr ns), .sh (.int k), a, b, c, d] [5] = [.sh (.scr ns), .sh (.int k), a, b, c, .un] := rfl
    rw [w]
    rw [lcD_range (fun j : Nat => .int (num02 (cellV ns (4 * (k : Int) + 1 + (j : Int))))) fun j hj => ⟨rfl, ?_⟩]
    · rw [List.map_map]; rfl
    · have cs := (num02_ok (cellV ns (4 * (k : Int) + 1 + (j : Int)))).1
      have ce := cell_ok ns (4 * (k : Int) + 1 + (j : Int)) (by omega) (by omega)
      have mu : mulD (.int 4) (.int (k : Int)) = .ok (.int (4 * (k : Int))) := mulD_small (.inl ⟨by decide, by decide⟩)
      have s5 : List.set [.sh (.scr ns), .sh (.int k), a, b, c, Slot.un] 5 (.sh (.int (j : Int))) = [.sh (.scr ns), .sh (.int k), a, b, c, .sh (.int (j : Int))] := rfl
      rw [s5]
      simp [mu, ce, cs]
  · obtain ⟨j, _, rfl⟩ := List.mem_map.mp hn
    exact (num02_ok _).2
/-- a turn's start: some thing of the law's -/
theorem head02 (ns : List Int) (k : Nat) (hk : k < 6) (a b c d : Slot) : ∃ cell src c' d', ((law_s1_1 [.sh (.scr ns), .sh (.int k), a, b, c, d]).seq fun r => (law_s1_2 r).seq law_s1_3) = .nx [.sh (.scr ns), .sh (.int k), .sh (.int cell), .sh src, c', d'] ∧
    ((∃ xs, Src xs src ∧ xs.length ≤ 8 ∧ ∀ n ∈ xs, Dr n) ∨ ∃ j : Nat, j < 25 ∧ src = oddL.getD j .non) := by
  have ce := cell_ok ns (4 * (k : Int)) (by omega) (by omega)
  have mu : mulD (.int 4) (.int (k : Int)) = .ok (.int (4 * (k : Int))) := mulD_small (.inl ⟨by decide, by decide⟩)
  have s1 : law_s1_1 [.sh (.scr ns), .sh (.int k), a, b, c, d] = .nx [.sh (.scr ns), .sh (.int k), .sh (.int (cellV ns (4 * (k : Int)))), b, c, d] := by simp [law_s1_1, mu, ce]
  generalize cellV ns (4 * (k : Int)) = v at s1
  obtain ⟨m, hm, hm8⟩ := len9 v
  obtain ⟨xs, hx, hl, hd⟩ := numbers_ok ns k hk (.sh (.int v)) b c d m hm8
  have r1 : rng1 [.int (m : Int)] = .ok (rangeL 0 m) := by
    show (if -1000000000 ≤ (m : Int) ∧ (m : Int) ≤ 1000000000 then Res.ok (rangeL 0 (m : Int).toNat) else .bad) = _
    rw [if_pos (by omega), Int.toNat_natCast]
  have s2 : law_s1_2 [.sh (.scr ns), .sh (.int k), .sh (.int v), b, c, d] = .nx [.sh (.scr ns), .sh (.int k), .sh (.int v), .sh (liI xs), c, d] := by
    have l9 : lstD [.int 0, .int 1, .int 2, .int 2, .int 3, .int 3, .int 4, .int 7, .int 8] = .ok (.lst [.int 0, .int 1, .int 2, .int 2, .int 3, .int 3, .int 4, .int 7, .int 8]) := rfl
    have lx : lstD (xs.map .int) = .ok (liI xs) := by
      unfold lstD
      rw [if_pos (by rw [List.length_map, hl]; exact Nat.le_trans hm8 (by decide))]
    simp [law_s1_2, l9, modD_ok, hm, r1, hx, lx, -ixD_lst, -lstD, shareAt, Mir.freeze]
  have s3 : ∃ src, law_s1_3 [.sh (.scr ns), .sh (.int k), .sh (.int v), .sh (liI xs), c, d] = .nx [.sh (.scr ns), .sh (.int k), .sh (.int v), .sh src, c, d] ∧ ((∃ xs, Src xs src ∧ xs.length ≤ 8 ∧ ∀ n ∈ xs, Dr n) ∨ ∃ j : Nat, j < 25 ∧ src = oddL.getD j .non) := by
    by_cases h1 : v / 9 % 4 = 1
    · obtain ⟨j, hj, hq⟩ := odd_ok (v / 36)
      refine ⟨_, ?_, .inr ⟨j, hj, rfl⟩⟩
      generalize oddL.getD j .non = z at hq
      simp [law_s1_3, law_s1_3_1, divL, modD_ok, h1, hq]
    · by_cases h2 : v / 9 % 4 = 2
      · refine ⟨tuI xs, ?_, .inl ⟨xs, .inl rfl, by omega, hd⟩⟩
        simp [law_s1_3, law_s1_3_0_1, law_s1_3_0_1_1, divL, modD_ok, h2]
      · refine ⟨liI xs, ?_, .inl ⟨xs, .inr rfl, by omega, hd⟩⟩
        simp [law_s1_3, law_s1_3_0_1, divL, modD_ok, h1, h2]
  obtain ⟨src, e3, h⟩ := s3
  exact ⟨v, src, c, d, by rw [s1, nx_seq, s2, nx_seq, e3], h⟩
theorem turn02 (ns : List Int) (k : Nat) (hk : k < 6) (a b c d e : Slot) : ∃ a' b' c' d', law_l2 (.int k) [.sh (.scr ns), e, a, b, c, d] = .nx [.sh (.scr ns), .sh (.int k), a', b', c', d'] := by
  obtain ⟨v, src, c', d', e1, h⟩ := head02 ns k hk a b c d
  have e2 : ∃ x, tail02 [.sh (.scr ns), .sh (.int k), .sh (.int v), .sh src, c', d'] = .nx [.sh (.scr ns), .sh (.int k), .sh (.int v), .sh src, x, d'] := by
    rcases h with ⟨xs, h1, h2, h3⟩ | ⟨j, hj, rfl⟩
    · exact tail_src h1 h2 h3 _ _ _ _ _
    · exact ⟨_, tail_odd _ _ _ _ _ j hj⟩
  obtain ⟨x, e2⟩ := e2
  refine ⟨.sh (.int v), .sh src, x, d', ?_⟩
  have n1 : into (nameG 1 (.int (k : Int)) [.sh (.scr ns), e, a, b, c, d]) = .nx [.sh (.scr ns), .sh (.int k), a, b, c, d] := rfl
  unfold law_l2
  rw [n1, nx_seq]
  unfold tail02 at e2
  cases z1 : law_s1_1 [.sh (.scr ns), .sh (.int k), a, b, c, d] with
  | nx r1 =>
    rw [z1, nx_seq] at e1
    rw [nx_seq]
    cases z2 : law_s1_2 r1 with
    | nx r2 =>
      rw [z2, nx_seq] at e1
      rw [nx_seq, e1, nx_seq, e2]
    | _ => rw [z2] at e1; cases e1
  | _ => rw [z1] at e1; cases e1
theorem law_ok (ns : List Int) (hl : ns.length ≤ 63) : d_law [.scr ns] = .ok (.bl true) := by
  refine runD_rt rfl ?_
  have st : startD N_law.length [.scr ns] = [.sh (.scr ns), .un, .un, .un, .un, .un] := rfl
  rw [st]
  have lp : ∀ (n i : Nat) (e a b c d : Slot), i + n = 6 → ∃ r, forD law_l2 ((List.range' i n).map fun k : Nat => D.int k) [.sh (.scr ns), e, a, b, c, d] = .nx r := by
    intro n
    induction n with
    | zero => exact fun i e a b c d _ => ⟨_, rfl⟩
    | succ n ih =>
      intro i e a b c d h
      obtain ⟨a', b', c', d', t⟩ := turn02 ns i (by omega) a b c d e
      obtain ⟨r, hr⟩ := ih (i + 1) (.sh (.int i)) a' b' c' d' (by omega)
      refine ⟨r, ?_⟩
      rw [List.range'_succ, List.map_cons, forD_cons, t]
      exact hr
  obtain ⟨r, hr⟩ := lp 6 0 .un .un .un .un .un rfl
  have r6 : rng1 [.int 6] = .ok ((List.range' 0 6).map fun k : Nat => D.int k) := rfl
  have s1 : law_s1 [.sh (.scr ns), .un, .un, .un, .un, .un] = .nx r := by
    unfold law_s1
    generalize law_l2 = g at hr ⊢
    simp only [ok_bind, r6, lift_ok, hr]
  unfold e_law
  rw [s1, nx_seq]
  rfl
end Mir.K02
open PySem PySem.W PyProof.Rows
theorem PySem.Challenge.cw_carrytower_k02_no_rounds_holds : PySem.Challenge.rw_carrytower_k02_no_rounds.Holds := by
  w_on; o_law; k_head; (case hw => w_witness2)
  k_fill
  refine Mir.walk_mir (l := PySem.Challenge.rw_carrytower_k02_no_rounds) (k := 6) (x := "_law_script") (g := Mir.K02.d_law) rfl rfl ⟨rfl, by decide, by decide⟩ (fun w h Y => by first | exact PySem.W.kIn_of Y | exact PySem.W.km_in_of Y) Mir.K02.law_ok ?F
  case F =>
    intro w mg fa h KX G hmg
    refine' Mir.K02.all_mk KX G hmg ?aC_CarryError ?aC_NoRounds ?aC_NoElement ?aC_NoText ?aC_Group ?aC_Rounds ?a_q_cell ?l_q_cell ?c_q_cell ?k_q_cell ?a_q_number ?l_q_number ?c_q_number ?k_q_number ?a_q_odd ?l_q_odd ?c_q_odd ?k_q_odd ?a_q_whole ?l_q_whole ?c_q_whole ?k_q_whole ?a_q_due ?l_q_due ?c_q_due ?k_q_due ?a_q_same ?l_q_same ?c_q_same ?k_q_same ?a_is_whole ?l_is_whole ?c_is_whole ?k_is_whole ?a_are_rounds ?l_are_rounds ?c_are_rounds ?k_are_rounds ?a_Rounds_init ?l_Rounds_init ?c_Rounds_init ?k_Rounds_init ?i_Rounds_init ?a_q_refused ?l_q_refused ?c_q_refused ?k_q_refused ?a_law ?l_law ?c_law ?k_law ?z_range ?z_len ?z_sum ?z_tuple ?z_isinstance ?z_list ?z_int ?z_bool ?z_all ?z_MOST_ROUNDS ?z_MOST_ELEMENTS ?ob_NoRounds ?fl_rounds ?z_ValueError ?hIs ?hCt ?mk_Rounds ?kc_Rounds
    (case aC_CarryError => k_is)
    (case aC_NoRounds => k_is)
    (case aC_NoElement => k_is)
    (case aC_NoText => k_is)
    (case aC_Group => k_is)
    (case aC_Rounds => k_is)
    (case a_q_cell => k_is)
    (case l_q_cell => k_is)
    (case c_q_cell => k_is)
    (case k_q_cell => k_is)
    (case a_q_number => k_is)
    (case l_q_number => k_is)
    (case c_q_number => k_is)
    (case k_q_number => k_is)
    (case a_q_odd => k_is)
    (case l_q_odd => k_is)
    (case c_q_odd => k_is)
    (case k_q_odd => k_is)
    (case a_q_whole => k_is)
    (case l_q_whole => k_is)
    (case c_q_whole => k_is)
    (case k_q_whole => k_is)
    (case a_q_due => k_is)
    (case l_q_due => k_is)
    (case c_q_due => k_is)
    (case k_q_due => k_is)
    (case a_q_same => k_is)
    (case l_q_same => k_is)
    (case c_q_same => k_is)
    (case k_q_same => k_is)
    (case a_is_whole => k_is)
    (case l_is_whole => k_is)
    (case c_is_whole => k_is)
    (case k_is_whole => k_is)
    (case a_are_rounds => k_is)
    (case l_are_rounds => k_is)
    (case c_are_rounds => k_is)
    (case k_are_rounds => k_is)
    (case a_Rounds_init => k_is)
    (case l_Rounds_init => k_is)
    (case c_Rounds_init => k_is)
    (case k_Rounds_init => k_is)
    (case i_Rounds_init => k_is)
    (case a_q_refused => k_is)
    (case l_q_refused => k_is)
    (case c_q_refused => k_is)
    (case k_q_refused => k_is)
    (case a_law => k_is)
    (case l_law => k_is)
    (case c_law => k_is)
    (case k_law => k_is)
    (case z_range => k_is)
    (case z_len => k_is)
    (case z_sum => k_is)
    (case z_tuple => k_is)
    (case z_isinstance => k_is)
    (case z_list => k_is)
    (case z_int => k_is)
    (case z_bool => k_is)
    (case z_all => k_is)
    (case z_MOST_ROUNDS => k_is)
    (case z_MOST_ELEMENTS => k_is)
    (case ob_NoRounds => kernel_rfl)
    (case fl_rounds => kernel_rfl)
    (case z_ValueError => k_is)
    (case hIs => kernel_rfl)
    (case hCt => kernel_rfl)
    (case mk_Rounds => k_is)
    (case kc_Rounds => k_is)
